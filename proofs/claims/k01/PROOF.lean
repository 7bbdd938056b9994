import PyProof.Rows.All
import Wide.All
import OpenK.AllK
import Wide.FinOn
import HandS.ForMost
import HandS.ForExc
import HandS.ForSpec
import HandS.Style
import HandS.IsInst
import HandS.StrMore
import HandS.StrSplit
import HandS.Flow
import HandS.CallSlots
import HandS.ReplaceLit
import HandS.More
import HandS.WrittenGet
import HandS.TupAny
import HandS.WideBits
import HandS.SortInts
import HandS.Translate
import HandS.Dict
import HandS.FStr
import HandS.Iter
import HandS.NoneIn
import HandS.ReplaceDef
import HandS.ReplaceList
import KE.OsArith
import KE.IntBitsLaws
import PySem.Challenge.RW_sensekept_k01_numbers_sets
set_option Elab.async false
set_option linter.all false
set_option maxRecDepth 100000
set_option maxHeartbeats 4000000
/-! A1: data values D, the small heap Mu, how they stand in the abstract heap. -/
namespace PyI
open PySem L2

inductive D where
  | non | bl (b : Bool) | int (i : Int) | str (s : Str)
  | tup (l : List D) | lst (l : List D) | ref (n : Nat) | kl (l : List D)
  deriving Inhabited

/-- an object that may change -/
inductive MO where
  | lst (l : List D)
  | dead
  | ins (c : Nat) (fs : List (Str × D))
  | dk (kvs : List (Key × D))
  deriving Inhabited

abbrev Mu := List MO
abbrev Rho := List (Option D)

/-- the part of SqT, SqL that no heap changes -/
def TK (K : PySem.W.Frag) (a : Addr) (xs : List V) : Prop := SqT K (fun _ => none) a xs
def LK (K : PySem.W.Frag) (a : Addr) (xs : List V) : Prop := SqL K (fun _ => none) a xs
theorem TK.sq {K : PySem.W.Frag} {H : Hp} {a : Addr} {xs : List V} (h : TK K a xs) : SqT K H a xs := by
  rcases h with h | h
  · rcases h with h | ⟨o, h⟩ <;> cases h
  · exact .inr h
theorem LK.sq {K : PySem.W.Frag} {H : Hp} {a : Addr} {xs : List V} (h : LK K a xs) : SqL K H a xs := by
  rcases h with h | h
  · rcases h with h | ⟨o, h⟩ <;> cases h
  · exact .inr h
/-- our addresses: of the small heap's objects, by number; and what else is kept out of the data -/
structure AM where
  ix : List Addr
  ex : List Addr
def AM.out (M : AM) (a : Addr) : Prop := a ∉ M.ix ∧ a ∉ M.ex
abbrev AM.hide (M : AM) (p : Addr) : AM := { M with ex := p :: M.ex }
abbrev AM.add (M : AM) (p : Addr) : AM := { M with ix := M.ix ++ [p] }
abbrev AM.cut (M : AM) (n : Nat) : AM := { M with ix := M.ix.take n }

def TA' (K : PySem.W.Frag) (H : Hp) (M : AM) (a : Addr) (xs : List V) : Prop := (Rd H a (.tup xs) ∧ M.out a) ∨ TK K a xs
/-- a list of the written part, or one of ours -/
def KA' (K : PySem.W.Frag) (H : Hp) (M : AM) (a : Addr) (xs : List V) : Prop := (Rd H a (.lst xs) ∧ M.out a) ∨ LK K a xs
def LA' (_ : PySem.W.Frag) (H : Hp) (M : AM) (a : Addr) (xs : List V) : Prop := Rd H a (.lst xs) ∧ M.out a
section
variable {K : PySem.W.Frag} {H H' H1 H2 : Hp} {M M' M1 M2 : AM} {a p : Addr} {xs : List V}
theorem TA'.sq (h : TA' K H M a xs) : SqT K H a xs := by
  rcases h with h | h
  · exact .inl h.1
  · exact h.sq
theorem KA'.sq (h : KA' K H M a xs) : SqL K H a xs := by
  rcases h with h | h
  · exact .inl h.1
  · exact h.sq
theorem LA'.sq (h : LA' K H M a xs) : SqL K H a xs := .inl h.1
end

mutual
inductive Rep (K : PySem.W.Frag) (H : Hp) (M : AM) : V → D → Prop
  | non : Rep K H M .non .non
  | bl (b : Bool) : Rep K H M (.bl b) (.bl b)
  | int (i : Int) : Rep K H M (.int i) (.int i)
  | str (x : Str) : Rep K H M (.str x) (.str x)
  | tup {a : Addr} {xs : List V} {ds : List D} : TA' K H M a xs → Reps K H M xs ds → Rep K H M (.ref a) (.tup ds)
  | lst {a : Addr} {xs : List V} {ds : List D} : LA' K H M a xs → Reps K H M xs ds → Rep K H M (.ref a) (.lst ds)
  | ref {a : Addr} {n : Nat} : M.ix[n]? = some a → Rep K H M (.ref a) (.ref n)
  | kl {a : Addr} {xs : List V} {ds : List D} : KA' K H M a xs → Reps K H M xs ds → Rep K H M (.ref a) (.kl ds)
inductive Reps (K : PySem.W.Frag) (H : Hp) (M : AM) : List V → List D → Prop
  | nil : Reps K H M [] []
  | cons {v : V} {vs : List V} {d : D} {ds : List D} : Rep K H M v d → Reps K H M vs ds → Reps K H M (v :: vs) (d :: ds)
end

/-- how heaps go on: what is tracked and no object of ours stays; our objects keep their places -/
structure Evo (M : AM) (H : Hp) (M' : AM) (H' : Hp) : Prop where
  pre : ∀ (n : Nat) (a : Addr), M.ix[n]? = some a → M'.ix[n]? = some a
  len : M.ix.length ≤ M'.ix.length
  ex : M'.ex = M.ex
  keep : ∀ (a : Addr) (o : HO), H a = some o → a ∉ M.ix → H' a = some o ∧ a ∉ M'.ix

/-- what lets a datum stand: the same for the data alone (addresses may leave ex, and new ones come in) -/
structure Stay (M : AM) (H : Hp) (M' : AM) (H' : Hp) : Prop where
  pre : ∀ (n : Nat) (a : Addr), M.ix[n]? = some a → M'.ix[n]? = some a
  keep : ∀ (a : Addr) (o : HO), H a = some o → M.out a → H' a = some o ∧ M'.out a

section
variable {K : PySem.W.Frag} {H H' H1 H2 : Hp} {M M' M1 M2 : AM} {a p : Addr} {xs : List V} {u o : HO}
theorem Evo.refl (M : AM) (H : Hp) : Evo M H M H := ⟨fun _ _ h => h, Nat.le_refl _, rfl, fun _ _ h n => ⟨h, n⟩⟩
theorem Evo.trans (a : Evo M H M1 H1) (b : Evo M1 H1 M2 H2) : Evo M H M2 H2 :=
  ⟨fun n x h => b.pre n x (a.pre n x h), Nat.le_trans a.len b.len, b.ex.trans a.ex, fun x o h n => b.keep x o (a.keep x o h n).1 (a.keep x o h n).2⟩
theorem Evo.stay (e : Evo M H M' H') : Stay M H M' H' := ⟨e.pre, fun a o h n => ⟨(e.keep a o h n.1).1, (e.keep a o h n.1).2, by rw [e.ex]; exact n.2⟩⟩
theorem Stay.trans (a : Stay M H M1 H1) (b : Stay M1 H1 M2 H2) : Stay M H M2 H2 :=
  ⟨fun n x h => b.pre n x (a.pre n x h), fun x o h n => b.keep x o (a.keep x o h n).1 (a.keep x o h n).2⟩
/-- a new address is kept out -/
theorem Stay.hide (h : H p = none) : Stay M H (M.hide p) H := ⟨fun _ _ q => q, fun a o e n => ⟨e, n.1, by
  show a ∉ p :: M.ex
  rw [List.mem_cons]
  rintro (q | q)
  · exact ne_of_none e h q
  · exact n.2 q⟩⟩
theorem Stay.unhide : Stay (M.hide p) H M H := ⟨fun _ _ q => q, fun a o e n => ⟨e, n.1, fun q => n.2 (List.mem_cons_of_mem _ q)⟩⟩
/-- what is kept out becomes ours -/
theorem Stay.take : Stay (M.hide p) H (M.add p) H := ⟨fun n a q => by
    show (M.ix ++ [p])[n]? = some a
    have z : n < M.ix.length := by
      rcases Nat.lt_or_ge n M.ix.length with z | z
      · exact z
      · rw [List.getElem?_eq_none z] at q; cases q
    rw [List.getElem?_append_left z]; exact q, fun a o e n => ⟨e, by
    show a ∉ M.ix ++ [p]
    rw [List.mem_append, List.mem_singleton]
    rintro (q | q)
    · exact n.1 q
    · exact n.2 (by rw [q]; exact List.mem_cons_self ..), fun q => n.2 (List.mem_cons_of_mem _ q)⟩⟩
/-- what is kept out changes -/
theorem Stay.mutEx (h : p ∈ M.ex) : Stay M H M (upd H p o) := ⟨fun _ _ q => q, fun a u e n => ⟨by rw [upd_ne (fun (q : a = p) => n.2 (by rw [q]; exact h))]; exact e, n⟩⟩
theorem Rd.stay (e : Stay M H M' H') (h : Rd H a u) (n : M.out a) : Rd H' a u ∧ M'.out a := by
  rcases h with h | ⟨o, h⟩
  · exact ⟨.inl (e.keep a _ h n).1, (e.keep a _ h n).2⟩
  · exact ⟨.inr ⟨o, (e.keep a _ h n).1⟩, (e.keep a _ h n).2⟩
theorem TA'.stay (e : Stay M H M' H') (h : TA' K H M a xs) : TA' K H' M' a xs := by
  rcases h with h | h
  · exact .inl (Rd.stay e h.1 h.2)
  · exact .inr h
theorem KA'.stay (e : Stay M H M' H') (h : KA' K H M a xs) : KA' K H' M' a xs := by
  rcases h with h | h
  · exact .inl (Rd.stay e h.1 h.2)
  · exact .inr h
theorem LA'.stay (e : Stay M H M' H') (h : LA' K H M a xs) : LA' K H' M' a xs := Rd.stay e h.1 h.2
end
mutual
theorem Rep.stay {K : PySem.W.Frag} {M M' : AM} {H H' : Hp} (e : Stay M H M' H') : ∀ {v : V} {d : D}, Rep K H M v d → Rep K H' M' v d
  | _, _, .non => .non
  | _, _, .bl b => .bl b
  | _, _, .int i => .int i
  | _, _, .str x => .str x
  | _, _, .tup h r => .tup (h.stay e) (Reps.stay e r)
  | _, _, .lst h r => .lst (h.stay e) (Reps.stay e r)
  | _, _, .kl h r => .kl (h.stay e) (Reps.stay e r)
  | _, _, .ref h => .ref (e.pre _ _ h)
theorem Reps.stay {K : PySem.W.Frag} {M M' : AM} {H H' : Hp} (e : Stay M H M' H') : ∀ {vs : List V} {ds : List D}, Reps K H M vs ds → Reps K H' M' vs ds
  | _, _, .nil => .nil
  | _, _, .cons h r => .cons (Rep.stay e h) (Reps.stay e r)
end
theorem Rep.evo {K : PySem.W.Frag} {M M' : AM} {H H' : Hp} {v : V} {d : D} (e : Evo M H M' H') (h : Rep K H M v d) : Rep K H' M' v d := h.stay e.stay
theorem Reps.evo {K : PySem.W.Frag} {M M' : AM} {H H' : Hp} {vs : List V} {ds : List D} (e : Evo M H M' H') (h : Reps K H M vs ds) : Reps K H' M' vs ds := h.stay e.stay

/-! ### no reference from n on -/
mutual
def below (n : Nat) : D → Bool
  | .ref k => decide (k < n)
  | .tup l => belows n l
  | .lst l => belows n l
  | .kl l => belows n l
  | _ => true
def belows (n : Nat) : List D → Bool
  | [] => true
  | d :: ds => below n d && belows n ds
end
def belowMO (n : Nat) : MO → Bool
  | .lst l => belows n l
  | .dead => true
  | .ins _ fs => fs.all fun p => below n p.2
  | .dk kvs => kvs.all fun p => below n p.2

theorem AM.out.cut {M : AM} {a : Addr} (n : Nat) (h : M.out a) : (M.cut n).out a := ⟨fun q => h.1 (List.mem_of_mem_take q), h.2⟩
mutual
theorem Rep.cut {K : PySem.W.Frag} {M : AM} {H : Hp} (n : Nat) : ∀ {v : V} {d : D}, Rep K H M v d → below n d = true → Rep K H (M.cut n) v d
  | _, _, .non, _ => .non
  | _, _, .bl b, _ => .bl b
  | _, _, .int i, _ => .int i
  | _, _, .str x, _ => .str x
  | _, _, .tup (.inl h) r, q => .tup (.inl ⟨h.1, h.2.cut n⟩) (Reps.cut n r (by simpa only [below] using q))
  | _, _, .tup (.inr h) r, q => .tup (.inr h) (Reps.cut n r (by simpa only [below] using q))
  | _, _, .lst h r, q => .lst ⟨h.1, h.2.cut n⟩ (Reps.cut n r (by simpa only [below] using q))
  | _, _, .kl (.inl h) r, q => .kl (.inl ⟨h.1, h.2.cut n⟩) (Reps.cut n r (by simpa only [below] using q))
  | _, _, .kl (.inr h) r, q => .kl (.inr h) (Reps.cut n r (by simpa only [below] using q))
  | _, _, .ref (n := k) h, q => .ref (by
      have q' : k < n := by simpa only [below, decide_eq_true_eq] using q
      show (M.ix.take n)[k]? = _
      rw [List.getElem?_take_of_lt q']; exact h)
theorem Reps.cut {K : PySem.W.Frag} {M : AM} {H : Hp} (n : Nat) : ∀ {vs : List V} {ds : List D}, Reps K H M vs ds → belows n ds = true → Reps K H (M.cut n) vs ds
  | _, _, .nil, _ => .nil
  | _, _, .cons h r, q => by
    simp only [belows, Bool.and_eq_true] at q
    exact .cons (Rep.cut n h q.1) (Reps.cut n r q.2)
end

section
variable {K : PySem.W.Frag} {H H' : Hp} {M : AM}
theorem Reps.length : ∀ {vs : List V} {ds : List D}, Reps K H M vs ds → vs.length = ds.length
  | _, _, .nil => rfl
  | _, _, .cons _ r => congrArg (· + 1) (Reps.length r)
theorem Reps.get : ∀ {vs : List V} {ds : List D} {i : Nat} {d : D}, Reps K H M vs ds → ds[i]? = some d → ∃ v, vs[i]? = some v ∧ Rep K H M v d
  | _, _, 0, _, .cons h _, e => by simp at e; subst e; exact ⟨_, rfl, h⟩
  | _, _, i + 1, d, .cons _ r, e => by
    obtain ⟨v, h1, h2⟩ := Reps.get (i := i) (d := d) r (by simpa using e)
    exact ⟨v, by simpa using h1, h2⟩
theorem Reps.append : ∀ {vs ws : List V} {ds es : List D}, Reps K H M vs ds → Reps K H M ws es → Reps K H M (vs ++ ws) (ds ++ es)
  | _, _, _, _, .nil, s => s
  | _, _, _, _, .cons h r, s => .cons h (Reps.append r s)
theorem Reps.takeL : ∀ {vs : List V} {ds : List D} (n : Nat), Reps K H M vs ds → Reps K H M (vs.take n) (ds.take n)
  | _, _, 0, _ => .nil
  | _, _, _ + 1, .nil => .nil
  | _, _, n + 1, .cons h r => .cons h (Reps.takeL n r)
theorem Reps.dropL : ∀ {vs : List V} {ds : List D} (n : Nat), Reps K H M vs ds → Reps K H M (vs.drop n) (ds.drop n)
  | _, _, 0, r => r
  | _, _, _ + 1, .nil => .nil
  | _, _, n + 1, .cons _ r => Reps.dropL n r
theorem Reps.set {v : V} {d : D} (q : Rep K H M v d) : ∀ {vs : List V} {ds : List D} (n : Nat), Reps K H M vs ds → Reps K H M (vs.set n v) (ds.set n d)
  | _, _, _, .nil => .nil
  | _, _, 0, .cons _ r => .cons q r
  | _, _, n + 1, .cons h r => .cons h (Reps.set q n r)
theorem Reps.rev : ∀ {vs : List V} {ds : List D}, Reps K H M vs ds → Reps K H M vs.reverse ds.reverse
  | _, _, .nil => .nil
  | _, _, .cons h r => by rw [List.reverse_cons, List.reverse_cons]; exact (Reps.rev r).append (.cons h .nil)
theorem Reps.one {v : V} {d : D} (h : Rep K H M v d) : Reps K H M [v] [d] := .cons h .nil
theorem Reps.one_inv {vs : List V} {d : D} (h : Reps K H M vs [d]) : ∃ v, vs = [v] ∧ Rep K H M v d := by
  cases h with
  | cons h r => cases r; exact ⟨_, rfl, h⟩
end

/-! ### the small heap in the abstract one -/
def FRep (K : PySem.W.Frag) (H : Hp) (M : AM) : List (Str × V) → List (Str × D) → Prop := Paired fun p q => p.1 = q.1 ∧ Rep K H M p.2 q.2
def KRep (K : PySem.W.Frag) (H : Hp) (M : AM) : List (Key × V) → List (Key × D) → Prop := Paired fun p q => p.1 = q.1 ∧ Rep K H M p.2 q.2
theorem paired_imp {α β : Type} {R S : α → β → Prop} (h : ∀ x y, R x y → S x y) : ∀ {xs : List α} {ys : List β}, Paired R xs ys → Paired S xs ys
  | _, _, .nil => .nil
  | _, _, .cons a r => .cons (h _ _ a) (paired_imp h r)

/-- the addresses of the classes, by number -/
structure CTab where
  cls : Nat → Addr

def MRep (K : PySem.W.Frag) (ct : CTab) (H : Hp) (M : AM) (a : Addr) : MO → Prop
  | .lst ds => ∃ xs, H a = some (.lst xs) ∧ Reps K H M xs ds
  | .dead => ∃ o, H a = some o
  | .ins c fs => ∃ dx fvs, H a = some (.ins (ct.cls c) dx fvs) ∧ FRep K H M fvs fs
  | .dk kvs => ∃ ks, H a = some (.dK ks) ∧ KRep K H M ks kvs

structure RelH (K : PySem.W.Frag) (ct : CTab) (H : Hp) (μ : Mu) (M : AM) : Prop where
  len : M.ix.length = μ.length
  nd : M.ix.Nodup
  at_ : ∀ (n : Nat) (mo : MO), μ[n]? = some mo → ∃ a, M.ix[n]? = some a ∧ MRep K ct H M a mo
  exs : ∀ a ∈ M.ex, (∃ o, H a = some o) ∧ a ∉ M.ix

section
variable {K : PySem.W.Frag} {ct : CTab} {H H' : Hp} {M M' : AM} {a p : Addr} {mo : MO} {μ : Mu} {o : HO}
theorem MRep.is (h : MRep K ct H M a mo) : ∃ o, H a = some o := by
  cases mo with
  | lst ds => obtain ⟨xs, h, _⟩ := h; exact ⟨_, h⟩
  | dead => exact h
  | ins c fs => obtain ⟨dx, fvs, h, _⟩ := h; exact ⟨_, h⟩
  | dk kvs => obtain ⟨ks, h, _⟩ := h; exact ⟨_, h⟩
theorem RelH.mem (R : RelH K ct H μ M) {a : Addr} (h : a ∈ M.ix) : ∃ o, H a = some o := by
  obtain ⟨n, hn, e⟩ := List.getElem_of_mem h
  have h1 : n < μ.length := R.len ▸ hn
  obtain ⟨a', e', r⟩ := R.at_ n μ[n] (List.getElem?_eq_getElem h1)
  rw [List.getElem?_eq_getElem hn, e] at e'
  cases e'
  exact r.is
theorem RelH.fresh (R : RelH K ct H μ M) {a : Addr} (h : H a = none) : M.out a := by
  refine ⟨fun q => ?_, fun q => ?_⟩
  · obtain ⟨o, e⟩ := R.mem q
    rw [h] at e; cases e
  · obtain ⟨⟨o, e⟩, _⟩ := R.exs a q
    rw [h] at e; cases e

/-- an object is made that is none of ours -/
theorem Evo.new (h : H p = none) : Evo M H M (upd H p o) :=
  ⟨fun _ _ q => q, Nat.le_refl _, rfl, fun a u e n => ⟨by rw [upd_ne (ne_of_none e h)]; exact e, n⟩⟩
theorem ix_add {l : List Addr} {n : Nat} {a p : Addr} (q : l[n]? = some a) : (l ++ [p])[n]? = some a := by
  have z : n < l.length := by
    rcases Nat.lt_or_ge n l.length with z | z
    · exact z
    · rw [List.getElem?_eq_none z] at q; cases q
  rw [List.getElem?_append_left z]; exact q
/-- an object is made that is ours -/
theorem Evo.own (h : H p = none) : Evo M H (M.add p) (upd H p o) :=
  ⟨fun n a q => ix_add q,
    by show _ ≤ (M.ix ++ [p]).length; simp, rfl, fun a u e n => ⟨by rw [upd_ne (ne_of_none e h)]; exact e, by
      show a ∉ M.ix ++ [p]
      rw [List.mem_append, List.mem_singleton]
      rintro (q | q)
      · exact n q
      · exact ne_of_none e h q⟩⟩
/-- one of ours changes -/
theorem Evo.mut (h : p ∈ M.ix) : Evo M H M (upd H p o) :=
  ⟨fun _ _ q => q, Nat.le_refl _, rfl, fun a u e n => ⟨by rw [upd_ne (fun (q : a = p) => n (by rw [q]; exact h))]; exact e, n⟩⟩

theorem MRep.stay (e : Stay M H M' H') (ha : ∀ o, H a = some o → H' a = some o) (h : MRep K ct H M a mo) : MRep K ct H' M' a mo := by
  cases mo with
  | lst ds => obtain ⟨xs, h, r⟩ := h; exact ⟨xs, ha _ h, r.stay e⟩
  | dead => obtain ⟨o, h⟩ := h; exact ⟨o, ha _ h⟩
  | ins c fs => obtain ⟨dx, fvs, h, r⟩ := h; exact ⟨dx, fvs, ha _ h, paired_imp (fun _ _ q => ⟨q.1, q.2.stay e⟩) r⟩
  | dk kvs => obtain ⟨ks, h, r⟩ := h; exact ⟨ks, ha _ h, paired_imp (fun _ _ q => ⟨q.1, q.2.stay e⟩) r⟩

theorem RelH.new (R : RelH K ct H μ M) (h : H p = none) : RelH K ct (upd H p o) μ M :=
  ⟨R.len, R.nd, fun n mo q => by
    obtain ⟨a, e, r⟩ := R.at_ n mo q
    exact ⟨a, e, r.stay (Evo.new h).stay fun u z => by rw [upd_ne (ne_of_none z h)]; exact z⟩, fun a q => by
    obtain ⟨⟨u, z⟩, y⟩ := R.exs a q
    exact ⟨⟨u, by rw [upd_ne (ne_of_none z h)]; exact z⟩, y⟩⟩
/-- a new object is kept out of the data -/
theorem RelH.hide (R : RelH K ct H μ M) (h : H p = none) : RelH K ct (upd H p o) μ (M.hide p) :=
  ⟨R.len, R.nd, fun n mo q => by
    obtain ⟨a, e, r⟩ := R.at_ n mo q
    exact ⟨a, e, r.stay ((Stay.hide h).trans (Evo.new h).stay) fun u z => by rw [upd_ne (ne_of_none z h)]; exact z⟩, fun a q => by
    rcases List.mem_cons.mp q with z | q
    · subst z; exact ⟨⟨o, upd_same⟩, (R.fresh h).1⟩
    · obtain ⟨⟨u, z⟩, y⟩ := R.exs a q
      exact ⟨⟨u, by rw [upd_ne (ne_of_none z h)]; exact z⟩, y⟩⟩
theorem RelH.unhide (R : RelH K ct H μ (M.hide p)) : RelH K ct H μ M :=
  ⟨R.len, R.nd, fun n mo q => by
    obtain ⟨a, e, r⟩ := R.at_ n mo q
    exact ⟨a, e, r.stay Stay.unhide fun _ z => z⟩, fun a q => R.exs a (List.mem_cons_of_mem _ q)⟩
/-- what is kept out changes -/
theorem RelH.mutEx (R : RelH K ct H μ M) (h : p ∈ M.ex) : RelH K ct (upd H p o) μ M :=
  ⟨R.len, R.nd, fun n mo q => by
    obtain ⟨a, e, r⟩ := R.at_ n mo q
    refine ⟨a, e, r.stay (Stay.mutEx h) fun u z => ?_⟩
    rw [upd_ne (fun (x : a = p) => (R.exs p h).2 (by rw [← x]; exact List.mem_of_getElem? e))]; exact z, fun a q => by
    obtain ⟨⟨u, z⟩, y⟩ := R.exs a q
    by_cases x : a = p
    · subst x; exact ⟨⟨o, upd_same⟩, y⟩
    · exact ⟨⟨u, by rw [upd_ne x]; exact z⟩, y⟩⟩
/-- what was kept out becomes ours -/
theorem RelH.takeIn (R : RelH K ct H μ (M.hide p)) (hn : p ∉ M.ex) (hm : MRep K ct H (M.add p) p mo) : RelH K ct H (μ ++ [mo]) (M.add p) := by
  have hp := (R.exs p (List.mem_cons_self ..)).2
  refine ⟨?_, ?_, fun n mo' q => ?_, fun a q => ?_⟩
  · show (M.ix ++ [p]).length = _
    have := R.len
    simp only [List.length_append, List.length_singleton]
    exact congrArg (· + 1) this
  · show (M.ix ++ [p]).Nodup
    rw [List.nodup_append]
    refine ⟨R.nd, by simp, fun a ha b hb => ?_⟩
    rw [List.mem_singleton] at hb
    rintro rfl
    exact hp (hb ▸ ha)
  · rcases Nat.lt_or_ge n μ.length with z | z
    · rw [List.getElem?_append_left z] at q
      obtain ⟨a, e, r⟩ := R.at_ n mo' q
      exact ⟨a, ix_add e, r.stay Stay.take fun _ z => z⟩
    · rw [List.getElem?_append_right z] at q
      have z1 : n - μ.length = 0 := by
        rcases Nat.eq_zero_or_pos (n - μ.length) with y | y
        · exact y
        · rw [List.getElem?_eq_none (by rw [List.length_singleton]; exact y)] at q; cases q
      rw [z1] at q
      simp at q
      subst q
      refine ⟨p, ?_, hm⟩
      show (M.ix ++ [p])[n]? = some p
      have hl : M.ix.length = μ.length := R.len
      rw [List.getElem?_append_right (by rw [hl]; exact z), hl, z1]
      rfl
  · obtain ⟨x, y⟩ := R.exs a (List.mem_cons_of_mem _ q)
    refine ⟨x, ?_⟩
    show a ∉ M.ix ++ [p]
    rw [List.mem_append, List.mem_singleton]
    rintro (z | z)
    · exact y z
    · exact hn (z ▸ q)
theorem RelH.mut (R : RelH K ct H μ M) {n : Nat} (hp : M.ix[n]? = some p) (hm : MRep K ct (upd H p o) M p mo) : RelH K ct (upd H p o) (μ.set n mo) M := by
  have hpm : p ∈ M.ix := List.mem_of_getElem? hp
  refine ⟨by rw [List.length_set]; exact R.len, R.nd, fun k mo' q => ?_, fun a q => ?_⟩
  · rw [List.getElem?_set] at q
    by_cases e : n = k
    · subst e
      rw [if_pos rfl] at q
      split at q
      · cases q; exact ⟨p, hp, hm⟩
      · cases q
    · rw [if_neg e] at q
      obtain ⟨a, e', r⟩ := R.at_ k mo' q
      refine ⟨a, e', r.stay (Evo.mut hpm).stay fun u z => ?_⟩
      have ne : a ≠ p := fun x => e ((List.getElem?_inj (by
        rcases Nat.lt_or_ge n M.ix.length with y | y
        · exact y
        · rw [List.getElem?_eq_none y] at hp; cases hp) R.nd).mp (by rw [hp, e', x]))
      rw [upd_ne ne]; exact z
  · obtain ⟨⟨u, z⟩, y⟩ := R.exs a q
    exact ⟨⟨u, by rw [upd_ne (fun (x : a = p) => y (by rw [x]; exact hpm))]; exact z⟩, y⟩
theorem RelH.cut (R : RelH K ct H μ M) (n : Nat) (hb : (μ.take n).all (belowMO n) = true) : RelH K ct H (μ.take n) (M.cut n) := by
  refine ⟨by show (M.ix.take n).length = _; rw [List.length_take, List.length_take, R.len], R.nd.sublist (List.take_sublist _ _), fun k mo q => ?_, fun a q => ?_⟩
  · have hk : k < n := by
      rcases Nat.lt_or_ge k n with y | y
      · exact y
      · rw [List.getElem?_eq_none (by rw [List.length_take]; omega)] at q; cases q
    have hb' : belowMO n mo = true := (List.all_eq_true.mp hb) mo (List.mem_of_getElem? q)
    rw [List.getElem?_take_of_lt hk] at q
    obtain ⟨a, e, r⟩ := R.at_ k mo q
    refine ⟨a, by show (M.ix.take n)[k]? = _; rw [List.getElem?_take_of_lt hk]; exact e, ?_⟩
    cases mo with
    | lst ds => obtain ⟨xs, h, r⟩ := r; exact ⟨xs, h, r.cut n hb'⟩
    | dead => exact r
    | ins c fs =>
      obtain ⟨dx, fvs, h, r⟩ := r
      refine ⟨dx, fvs, h, ?_⟩
      have hb2 : ∀ p ∈ fs, below n p.2 = true := by simpa [belowMO, List.all_eq_true] using hb'
      clear hb' q h e
      induction r with
      | nil => exact .nil
      | cons a r ih => exact .cons ⟨a.1, a.2.cut n (hb2 _ (List.mem_cons_self ..))⟩ (ih fun p hp => hb2 p (List.mem_cons_of_mem _ hp))
    | dk kvs =>
      obtain ⟨ks, h, r⟩ := r
      refine ⟨ks, h, ?_⟩
      have hb2 : ∀ p ∈ kvs, below n p.2 = true := by simpa [belowMO, List.all_eq_true] using hb'
      clear hb' q h e
      induction r with
      | nil => exact .nil
      | cons a r ih => exact .cons ⟨a.1, a.2.cut n (hb2 _ (List.mem_cons_self ..))⟩ (ih fun p hp => hb2 p (List.mem_cons_of_mem _ hp))
  · obtain ⟨x, y⟩ := R.exs a q
    exact ⟨x, fun z => y (List.mem_of_mem_take z)⟩
/-- evolution seen from the beginning, when what was made is cut off -/
theorem Evo.cut (e : Evo M H M' H') : Evo M H (M'.cut M.ix.length) H' :=
  ⟨fun n a h => by
      have z : n < M.ix.length := by
        rcases Nat.lt_or_ge n M.ix.length with z | z
        · exact z
        · rw [List.getElem?_eq_none z] at h; cases h
      show (M'.ix.take M.ix.length)[n]? = some a
      rw [List.getElem?_take_of_lt z]; exact e.pre n a h,
    by show _ ≤ (M'.ix.take M.ix.length).length; rw [List.length_take]; exact Nat.le_min.mpr ⟨Nat.le_refl _, e.len⟩, e.ex,
    fun a o h n => ⟨(e.keep a o h n).1, fun q => (e.keep a o h n).2 (List.mem_of_mem_take q)⟩⟩
/-- with one address kept out -/
theorem Evo.hide (e : Evo M H M' H') : Evo (M.hide p) H (M'.hide p) H' := ⟨e.pre, e.len, congrArg (p :: ·) e.ex, e.keep⟩
theorem Evo.unhide (e : Evo (M.hide p) H (M'.hide p) H') : Evo M H M' H' := ⟨e.pre, e.len, (List.cons.inj e.ex).2, e.keep⟩
end

/-- slots -/
structure RelE (K : PySem.W.Frag) (H : Hp) (M : AM) (σ : St) (ρ : Rho) : Prop where
  len : σ.length = ρ.length
  at_ : ∀ (i : Nat) (d : D), ρ[i]? = some (some d) → ∃ v, σ[i]? = some (some v) ∧ Rep K H M v d
section
variable {K : PySem.W.Frag} {H H' : Hp} {M M' : AM} {σ : St} {ρ : Rho}
theorem RelE.stay (e : Stay M H M' H') (R : RelE K H M σ ρ) : RelE K H' M' σ ρ :=
  ⟨R.len, fun i d h => by obtain ⟨v, h1, h2⟩ := R.at_ i d h; exact ⟨v, h1, h2.stay e⟩⟩
theorem RelE.evo (e : Evo M H M' H') (R : RelE K H M σ ρ) : RelE K H' M' σ ρ := R.stay e.stay
theorem RelE.set (R : RelE K H M σ ρ) {v : V} {d : D} (r : Rep K H M v d) (i : Nat) : RelE K H M (σ.set i (some v)) (ρ.set i (some d)) := by
  refine ⟨by rw [List.length_set, List.length_set]; exact R.len, fun k d' h => ?_⟩
  rw [List.getElem?_set] at h ⊢
  by_cases e : i = k
  · rw [if_pos e] at h ⊢
    by_cases z : i < ρ.length
    · rw [if_pos z] at h; cases h
      rw [if_pos (by rw [R.len]; exact z)]
      exact ⟨v, rfl, r⟩
    · rw [if_neg z] at h; cases h
  · rw [if_neg e] at h ⊢
    exact R.at_ k d' h
/-- a slot is emptied -/
theorem RelE.clear (R : RelE K H M σ ρ) (i : Nat) (x : Option V) : RelE K H M (σ.set i x) (ρ.set i none) := by
  refine ⟨by rw [List.length_set, List.length_set]; exact R.len, fun k d h => ?_⟩
  rw [List.getElem?_set] at h ⊢
  by_cases e : i = k
  · rw [if_pos e] at h
    split at h <;> simp at h
  · rw [if_neg e] at h ⊢
    exact R.at_ k d h
def wipeR (ρ : Rho) : List Nat → Rho
  | [] => ρ
  | i :: is => (wipeR ρ is).set i none
theorem RelE.wipe (R : RelE K H M σ ρ) : ∀ is : List Nat, RelE K H M (L2.wipe σ is) (wipeR ρ is)
  | [] => R
  | i :: is => (R.wipe is).clear i none
end
theorem wipe_set {σ : St} {i : Nat} {v : Option V} : ∀ {vs : List Nat}, i ∈ vs → L2.wipe (σ.set i v) vs = L2.wipe σ vs := by
  intro vs h
  apply List.ext_getElem?
  intro k
  by_cases hk : k ∈ vs
  · have w : ∀ (τ : St) (vs : List Nat), k ∈ vs → k < τ.length → (L2.wipe τ vs)[k]? = some none := by
      intro τ vs
      induction vs with
      | nil => intro h; cases h
      | cons j js ih =>
        intro hk hl
        unfold L2.wipe
        rw [List.getElem?_set]
        by_cases e : j = k
        · rw [if_pos e, if_pos (by rw [wipe_length, e]; exact hl)]
        · rw [if_neg e]
          rcases List.mem_cons.mp hk with z | z
          · exact absurd z.symm e
          · exact ih z hl
    rcases Nat.lt_or_ge k σ.length with z | z
    · rw [w σ vs hk z, w _ vs hk (by rw [List.length_set]; exact z)]
    · rw [List.getElem?_eq_none (by rw [wipe_length, List.length_set]; exact z), List.getElem?_eq_none (by rw [wipe_length]; exact z)]
  · rw [L2.wipe_out hk, L2.wipe_out hk, List.getElem?_set, if_neg (fun (e : i = k) => hk (by rw [← e]; exact h))]
end PyI
/-! A2: the resolved syntax and its interpreter. -/
namespace PyI
open PySem L2

inductive Bop where
  | add | sub | mul | fdiv | mod | pow | shl | shr | band | bor | bxor
  deriving DecidableEq
inductive Cop where
  | eq | ne | lt | le | gt | ge | is_ | isnot | in_ | notin
  deriving DecidableEq
inductive Ty where
  | str | int | bool | tuple | list
  deriving DecidableEq
inductive Bif where
  | len | int | str | tuple | list | sorted | min | max | sum | any | all | abs | ord | bool
  deriving DecidableEq
inductive Met where
  | append | join | find | isascii | isprintable | split | endswith | startswith | extend | pop | index | isdigit | isalpha | islower
  deriving DecidableEq
inductive Tg where
  | nm (i : Nat)
  | tp (l : List Nat)
  deriving DecidableEq

mutual
inductive E where
  | var (i : Nat)
  | cst (d : D)
  | glob (g : Nat)
  | bin (o : Bop) (a b : E)
  | neg (a : E)
  | inv (a : E)
  | bits (a : E)
  | notv (t : T)
  | and (a b : E)
  | or (a b : E)
  | cmp (o : Cop) (a b : E)
  | chn (o o' : Cop) (a b c : E)
  | ite (t : T) (a b : E)
  | call (f : Nat) (as : Es)
  | bif (b : Bif) (as : Es)
  | isi (a : E) (t : Ty)
  | met (m : Met) (o : E) (as : Es)
  | tr37 (o : E)
  | idx (a b : E)
  | slc (a : E) (lo hi : O)
  | tup (es : Es)
  | lst (es : Es)
  | comp (own : List Nat) (tg : Tg) (it : IT) (c : T) (e : E)
  | gdict (g : Nat) (k : E)            -- CONST[k], a dict of the module with text keys
  | gin (neg : Bool) (g : Nat) (k : E)  -- k in CONST
  | fmt (a : E)                        -- a part {a} of an f-string
  | fs (es : Es)                       -- an f-string of two parts or more
inductive Es where
  | nil
  | cons (e : E) (es : Es)
inductive O where
  | none
  | some (e : E)
inductive T where
  | yes
  | val (e : E)
  | not (t : T)
  | and (t u : T)
  | or (t u : T)
inductive IT where
  | seq (e : E)
  | rng1 (a : E)
  | rng2 (a b : E)
end
/-- e.replace(y, z).replace(..).. -/
inductive R where
  | base (e : E)
  | repl (r : R) (y z : Str)
mutual
inductive S where
  | setR (i : Nat) (r : R)
  | retR (pre : Str) (r : R) (post : Str)      -- return 'pre' + r + 'post'
  | set (tg : Tg) (e : E)
  | new (i : Nat) (e : E)
  | setIx (o i v : E)
  | aug (i : Nat) (o : Bop) (e : E)
  | expr (e : E)
  | ifs (t : T) (a b : B)
  | for_ (tg : Tg) (it : IT) (b : B)
  | whl (t : T) (b : B)
  | ret (e : E)
  | retN
  | pass
  | brk
  | cnt
  | bad                                   -- nothing is known of it
inductive B where
  | nil
  | cons (s : S) (b : B)
end

inductive Res (α : Type) where
  | ok (a : α) (μ : Mu)
  | err (c : Nat) (fs : List D) (μ : Mu)
  | stuck

def Res.bind {α β : Type} (r : Res α) (f : α → Mu → Res β) : Res β := match r with
  | .ok a μ => f a μ
  | .err c fs μ => .err c fs μ
  | .stuck => .stuck
def needs {α : Type} (p : Prop) [Decidable p] (r : Res α) : Res α := if p then r else .stuck
theorem needs_pos {α : Type} {p : Prop} [Decidable p] {r : Res α} (h : p) : needs p r = r := if_pos h

structure G where
  call : Nat → List D → Mu → Res D
  con : Nat → Option D
  dic : Nat → List (Str × D)
  wf : Nat

/-! ### equality -/
mutual
def D.beq : D → D → Bool
  | .non, .non => true
  | .bl a, .bl b => a == b
  | .int a, .int b => a == b
  | .str a, .str b => a == b
  | .ref a, .ref b => a == b
  | .tup a, .tup b => D.beqs a b
  | .lst a, .lst b => D.beqs a b
  | _, _ => false
def D.beqs : List D → List D → Bool
  | [], [] => true
  | x :: xs, y :: ys => D.beq x y && D.beqs xs ys
  | _, _ => false
end
mutual
/-- Python's == on data -/
def eqD : D → D → Bool
  | .non, .non => true
  | .bl a, .bl b => a == b
  | .bl a, .int j => (if a then 1 else 0) == j
  | .int i, .bl b => i == (if b then 1 else 0)
  | .int i, .int j => i == j
  | .str x, .str y => x == y
  | .lst xs, .lst ys => eqDs xs ys
  | .tup xs, .tup ys => eqDs xs ys
  | _, _ => false
def eqDs : List D → List D → Bool
  | [], [] => true
  | x :: xs, y :: ys => eqD x y && eqDs xs ys
  | _, _ => false
end
mutual
/-- what == is told of: no references, texts of signs, at most n deep -/
def eqOk : Nat → D → Bool
  | _, .non | _, .bl _ | _, .int _ => true
  | _, .str s => s.cps.all (· < 0x110000)
  | 0, .tup _ | 0, .lst _ => false
  | n + 1, .tup l => eqOks n l
  | n + 1, .lst l => eqOks n l
  | _, .ref _ => false
  | _, .kl _ => false
def eqOks : Nat → List D → Bool
  | _, [] => true
  | n, d :: ds => eqOk n d && eqOks n ds
end
/-- a list object's content as a datum -/
def deref (μ : Mu) : D → D
  | .ref n => match μ[n]? with
    | some (.lst l) => .lst l
    | _ => .ref n
  | d => d
def flatD : D → Bool
  | .non | .bl _ | .int _ | .str _ => true
  | _ => false
/-- the items of a list or a tuple -/
def seqD (μ : Mu) : D → Option (List D)
  | .tup l => some l
  | .lst l => some l
  | .kl l => some l
  | .ref n => match μ[n]? with
    | some (.lst l) => some l
    | _ => none
  | _ => none
/-- the items of a list -/
def lstD (μ : Mu) : D → Option (List D)
  | .lst l => some l
  | .ref n => match μ[n]? with
    | some (.lst l) => some l
    | _ => none
  | _ => none
def truD (μ : Mu) : D → Mu → Res Bool
  | .non, ν => .ok false ν
  | .bl b, ν => .ok b ν
  | .int i, ν => .ok (i != 0) ν
  | .str s, ν => needs (s.length ≤ 16777216) (.ok (s.length != 0) ν)
  | .tup l, ν => .ok (!l.isEmpty) ν
  | .lst l, ν => .ok (!l.isEmpty) ν
  | .kl _, _ => .stuck
  | .ref n, ν => match μ[n]? with
    | some (.lst l) => .ok (!l.isEmpty) ν
    | _ => .stuck

/-! ### operators -/
/-- a text, so many times -/
def strRep (x : Str) (n : Nat) : Str := ⟨(List.replicate n x.cps).foldl (· ++ ·) #[]⟩
abbrev lim64 (i : Int) : Prop := -(2 ^ 64) < i ∧ i < 2 ^ 64
def binD (o : Bop) (x y : D) (μ : Mu) : Res D := match o, x, y with
  | .add, .int i, .int j => .ok (.int (i + j)) μ
  | .sub, .int i, .int j => .ok (.int (i - j)) μ
  | .mul, .int i, .int j => needs ((lim64 i ∨ lim64 j) ∨ i.natAbs.log2 + j.natAbs.log2 < 1000000) (.ok (.int (i * j)) μ)
  | .fdiv, .int i, .int j => needs (0 < j ∧ (j < 1073741824 ∨ j.natAbs.log2 < 9000)) (.ok (.int (i / j)) μ)
  | .mod, .int i, .int j => needs (0 < j) (.ok (.int (i % j)) μ)
  | .pow, .int i, .int j => needs (0 ≤ j ∧ j ≤ 1000000 ∧ i.natAbs < 2 ^ 64) (.ok (.int (i ^ j.toNat)) μ)
  | .shl, .int i, .int j => needs ((0 ≤ j ∧ j ≤ 1000000 ∧ i.natAbs < 2 ^ 64) ∨ (0 ≤ j ∧ (Builtin.Int.intBits i : Int) + j ≤ 2 ^ 27)) (.ok (.int (i * 2 ^ j.toNat)) μ)
  | .shr, .int i, .int j => needs (0 ≤ j) (.ok (.int (i / 2 ^ j.toNat)) μ)
  | .band, .int i, .int j => .ok (.int (Builtin.bitAnd i j)) μ
  | .bor, .int i, .int j => .ok (.int (Builtin.bitOr i j)) μ
  | .bxor, .int i, .int j => .ok (.int (Builtin.bitXor i j)) μ
  | .add, .str i, .str j => needs (i.length + j.length ≤ 16777216) (.ok (.str (i ++ j)) μ)
  | .add, .tup i, .tup j => needs (i.length + j.length ≤ 16777216) (.ok (.tup (i ++ j)) μ)
  | .mul, .str i, .int j => needs ((-(2 ^ 62) ≤ j ∧ j < 2 ^ 62) ∧ i.length * j.toNat ≤ 16777216) (.ok (.str (strRep i j.toNat)) μ)
  | .add, x, y => match lstD μ x, lstD μ y with
    | some i, some j => needs (i.length + j.length ≤ 16777216) (.ok (.lst (i ++ j)) μ)
    | _, _ => .stuck
  | _, _, _ => .stuck
def ltS (i j : Str) : Bool := decide (i.cps.toList < j.cps.toList)
def cmpD (o : Cop) (x y : D) (μ : Mu) : Res Bool := match o with
  | .eq => let x := deref μ x; let y := deref μ y; needs (eqOk 64 x = true ∧ eqOk 64 y = true) (.ok (eqD x y) μ)
  | .ne => let x := deref μ x; let y := deref μ y; needs (eqOk 64 x = true ∧ eqOk 64 y = true) (.ok (!eqD x y) μ)
  | .lt => match x, y with
    | .int i, .int j => .ok (decide (i < j)) μ
    | .str i, .str j => .ok (ltS i j) μ
    | _, _ => .stuck
  | .le => match x, y with
    | .int i, .int j => .ok (decide (i ≤ j)) μ
    | .str i, .str j => .ok (!ltS j i) μ
    | _, _ => .stuck
  | .gt => match x, y with
    | .int i, .int j => .ok (decide (j < i)) μ
    | .str i, .str j => .ok (ltS j i) μ
    | _, _ => .stuck
  | .ge => match x, y with
    | .int i, .int j => .ok (decide (j ≤ i)) μ
    | .str i, .str j => .ok (!ltS i j) μ
    | _, _ => .stuck
  | .is_ => match x, y with
    | .non, .non => .ok true μ
    | _, .non => .ok false μ
    | .bl a, .bl b => .ok (a == b) μ
    | _, .bl _ => .ok false μ
    | _, _ => .stuck
  | .isnot => match x, y with
    | .non, .non => .ok false μ
    | _, .non => .ok true μ
    | .bl a, .bl b => .ok (!(a == b)) μ
    | _, .bl _ => .ok true μ
    | _, _ => .stuck
  | .in_ => match x, y with
    | .str i, .str j => .ok (!(Builtin.Str.occurrences j i 0 j.length 1).isEmpty) μ
    | x, y => match seqD μ y with
      | some l => needs (flatD x = true ∧ l.all flatD = true) (.ok (l.any fun y => eqD y x) μ)
      | none => .stuck
  | .notin => match x, y with
    | .str i, .str j => .ok (!(!(Builtin.Str.occurrences j i 0 j.length 1).isEmpty)) μ
    | x, y => match seqD μ y with
      | some l => needs (flatD x = true ∧ l.all flatD = true) (.ok (!(l.any fun y => eqD y x)) μ)
      | none => .stuck
def isiD (x : D) (t : Ty) (μ : Mu) : Res D := match x with
  | .non => .ok (.bl false) μ
  | .bl _ => .ok (.bl (t == .bool || t == .int)) μ
  | .int _ => .ok (.bl (t == .int)) μ
  | .str _ => .ok (.bl (t == .str)) μ
  | .tup _ => .ok (.bl (t == .tuple)) μ
  | .lst _ => .ok (.bl (t == .list)) μ
  | .kl _ => .stuck
  | .ref n => match μ[n]? with
    | some (.lst _) => .ok (.bl (t == .list)) μ
    | _ => .stuck
def strsOf : List D → Option (List Str)
  | [] => some []
  | .str s :: ds => (strsOf ds).map (s :: ·)
  | _ => none
def intsOf : List D → Option (List Int)
  | [] => some []
  | .int s :: ds => (intsOf ds).map (s :: ·)
  | _ => none
def boolsOf : List D → Option (List Bool)
  | [] => some []
  | .bl s :: ds => (boolsOf ds).map (s :: ·)
  | _ => none
def maxL : List Int → Int
  | [] => 0
  | [a] => a
  | a :: b :: r => if a < maxL (b :: r) then maxL (b :: r) else a
def minL : List Int → Int
  | [] => 0
  | [a] => a
  | a :: b :: r => if minL (b :: r) < a then minL (b :: r) else a
def insI (a : Int) : List Int → List Int
  | [] => [a]
  | b :: r => if a ≤ b then a :: b :: r else b :: insI a r
def sortI : List Int → List Int
  | [] => []
  | a :: r => insI a (sortI r)
def bifD (b : Bif) (ds : List D) (μ : Mu) : Res D := match b, ds with
  | .len, [.str s] => needs (s.length ≤ 16777216) (.ok (.int s.length) μ)
  | .len, [d] => match seqD μ d with
    | some l => .ok (.int l.length) μ
    | none => .stuck
  | .int, [.int i] => .ok (.int i) μ
  | .int, [.bl k] => .ok (.int (if k then 1 else 0)) μ
  | .int, [.str s] => match PySem.intText? s with
    | some n => needs (s.length ≤ 640) (.ok (.int n) μ)
    | none => .stuck
  | .str, [.int i] => needs (i.natAbs.log2 < 1920) (.ok (.str (toString i)) μ)
  | .abs, [.int i] => .ok (.int (if i < 0 then -i else i)) μ
  | .max, [.int i, .int j] => .ok (.int (if j > i then j else i)) μ
  | .min, [.int i, .int j] => .ok (.int (if j < i then j else i)) μ
  | .tuple, [.tup l] => .ok (.tup l) μ
  | .tuple, [d] => match seqD μ d with
    | some l => .ok (.tup l) μ
    | none => .stuck
  | .list, [d] => match seqD μ d with
    | some l => .ok (.lst l) μ
    | none => .stuck
  | .ord, [.str s] => needs (s.length = 1) (.ok (.int (s.cps.getD 0 0 : Nat)) μ)
  | .sum, [d] => match (lstD μ d).bind intsOf with
    | some l => .ok (.int l.sum) μ
    | none => .stuck
  | .any, [d] => match (lstD μ d).bind boolsOf with
    | some l => .ok (.bl (l.any id)) μ
    | none => .stuck
  | .all, [d] => match (lstD μ d).bind boolsOf with
    | some l => .ok (.bl (l.all id)) μ
    | none => .stuck
  | .max, [d] => match (lstD μ d).bind intsOf with
    | some l => needs (0 < l.length) (.ok (.int (maxL l)) μ)
    | none => .stuck
  | .min, [d] => match (lstD μ d).bind intsOf with
    | some l => needs (0 < l.length) (.ok (.int (minL l)) μ)
    | none => .stuck
  | .sorted, [d] => match (lstD μ d).bind intsOf with
    | some l => .ok (.lst ((sortI l).map D.int)) μ
    | none => .stuck
  | _, _ => .stuck
def metD (m : Met) (o : D) (ds : List D) (μ : Mu) : Res D := match m, o, ds with
  | .append, .ref n, [d] => match μ[n]? with
    | some (.lst l) => needs (l.length < 16777216) (.ok .non (μ.set n (.lst (l ++ [d]))))
    | _ => .stuck
  | .join, .str a, [d] => match (seqD μ d).bind strsOf with
    | some ys => needs ((ys.map (·.length)).sum + ys.length * a.length ≤ 16777216) (.ok (.str (Txt.join a ys)) μ)
    | none => .stuck
  | .find, .str a, [.str b, .int i] => .ok (.int (Txt.find3 a b i)) μ
  | .find, .str a, [.str b] => .ok (.int (Txt.find a b)) μ
  | .isascii, .str a, [] => .ok (.bl (Txt.isascii a)) μ
  | .isprintable, .str a, [] => .ok (.bl (Txt.isprintable a)) μ
  | .isdigit, .str a, [] => .ok (.bl (Txt.isdigit a)) μ
  | .isalpha, .str a, [] => .ok (.bl (Txt.isalpha a)) μ
  | .islower, .str a, [] => .ok (.bl (Txt.islower a)) μ
  | .startswith, .str a, [.str b] => .ok (.bl (Txt.startswith a b)) μ
  | .endswith, .str a, [.str b] => .ok (.bl (Txt.endswith a b)) μ
  | .split, .str a, [.str b] => needs (¬ b.length = 0 ∧ a.length + 2 ≤ 16777216) (.ok (.lst ((Txt.split a b).map D.str)) μ)
  | _, _, _ => .stuck
/-- the receiver is of the method's type -/
def tyD (m : Met) (o : D) (μ : Mu) : Bool := match m, o with
  | .append, .ref n => (match μ[n]? with
    | some (.lst _) => true
    | _ => false)
  | .extend, _ | .pop, _ | .append, _ => false
  | _, .str _ => true
  | _, _ => false
def replD (o : D) (y z : Str) (μ : Mu) : Res D := match o with
  | .str x => needs (x.length + (x.length + 1) * z.length ≤ 16777216) (.ok (.str (Txt.replace x y z)) μ)
  | _ => .stuck
def tr37S (x : Str) : Str := ⟨(x.cps.toList.filter (· != 37)).toArray⟩
def tr37D (o : D) (μ : Mu) : Res D := match o with
  | .str x => needs (x.length ≤ 1000000 ∧ x.cps.all (· < 128) = true) (.ok (.str (tr37S x)) μ)
  | _ => .stuck
def idxD (o i : D) (μ : Mu) : Res D := match o, i with
  | .str z, .int k => match atI z.cps.toList k with
    | some c => needs (z.length ≤ 16777216) (.ok (.str ⟨#[c]⟩) μ)
    | none => .stuck
  | o, .int k => match seqD μ o with
    | some l => match atI l k with
      | some d => .ok d μ
      | none => .stuck
    | none => .stuck
  | _, _ => .stuck
def cutD (xs : List D) (lo hi : Option Int) : List D := (xs.drop (HT.sIx xs.length 0 lo)).take (HT.sIx xs.length xs.length hi - HT.sIx xs.length 0 lo)
def slcD (o : D) (lo hi : Option Int) (μ : Mu) : Res D := match o with
  | .str z => needs (z.length ≤ 16777216) (.ok (.str (cutS z lo hi)) μ)
  | .lst l => .ok (.lst (cutD l lo hi)) μ
  | .ref n => match μ[n]? with
    | some (.lst l) => .ok (.lst (cutD l lo hi)) μ
    | _ => .stuck
  | .tup l => needs (¬ (HT.sIx l.length 0 lo = 0 ∧ HT.sIx l.length l.length hi = l.length)) (.ok (.tup (cutD l lo hi)) μ)
  | _ => .stuck
def setIxD (o i v : D) (μ : Mu) : Res Unit := match o, i with
  | .ref n, .int k => match μ[n]? with
    | some (.lst l) => match ixN l.length k with
      | some j => .ok () (μ.set n (.lst (l.set j v)))
      | none => .stuck
    | _ => .stuck
  | _, _ => .stuck
def assignT (t : Tg) (d : D) (ρ : Rho) : Option Rho := match t with
  | .nm i => some (ρ.set i (some d))
  | .tp l => match d with
    | .tup ds => if ds.length = l.length then some ((l.zip ds).foldl (fun ρ p => ρ.set p.1 (some p.2)) ρ) else none
    | .lst ds => if ds.length = l.length then some ((l.zip ds).foldl (fun ρ p => ρ.set p.1 (some p.2)) ρ) else none
    | _ => none

/-! ### loops of comprehensions -/
def compLoop (f : D → Mu → Res (Option D)) (chk : Mu → Bool) : List D → List D → Mu → Res (List D)
  | acc, [], μ => if chk μ then .ok acc μ else .stuck
  | acc, d :: ds, μ => if chk μ then (match f d μ with
      | .ok none μ' => compLoop f chk acc ds μ'
      | .ok (some y) μ' => needs (acc.length < 16777216) (compLoop f chk (acc ++ [y]) ds μ')
      | _ => .stuck) else .stuck
/-- the items, and the list object that must stay while they are walked -/
abbrev Its := List D × Option (Nat × List D)
def chkOf (src : Option (Nat × List D)) (μ : Mu) : Bool := match src with
  | none => true
  | some (n, l) => match μ[n]? with
    | some (.lst l') => D.beqs l' l
    | _ => false
def rngD (lo : Int) (n : Nat) : List D := (List.range n).map fun (i : Nat) => D.int (lo + (i : Int))
def lim62 (i : Int) : Prop := -(2 ^ 62) ≤ i ∧ i < 2 ^ 62
instance (i : Int) : Decidable (lim62 i) := by unfold lim62; infer_instance
def itD (d : D) (μ : Mu) : Res Its := match d with
  | .tup l => .ok (l, none) μ
  | .lst l => .ok (l, none) μ
  | .ref n => match μ[n]? with
    | some (.lst l) => .ok (l, some (n, l)) μ
    | _ => .stuck
  | .str s => .ok (s.cps.toList.map fun c => D.str ⟨#[c]⟩, none) μ
  | _ => .stuck

mutual
def evalE (Γ : G) : E → Rho → Mu → Res D
  | .var i, ρ, μ => match ρ[i]? with
    | some (some d) => .ok d μ
    | _ => .stuck
  | .cst d, _, μ => .ok d μ
  | .glob g, _, μ => match Γ.con g with
    | some d => .ok d μ
    | none => .stuck
  | .bin o a b, ρ, μ => (evalE Γ a ρ μ).bind fun x μ => (evalE Γ b ρ μ).bind fun y μ => binD o x y μ
  | .neg a, ρ, μ => (evalE Γ a ρ μ).bind fun x μ => match x with
    | .int i => .ok (.int (-i)) μ
    | _ => .stuck
  | .inv a, ρ, μ => (evalE Γ a ρ μ).bind fun x μ => match x with
    | .int i => .ok (.int (Builtin.bitNot i)) μ
    | _ => .stuck
  | .bits a, ρ, μ => (evalE Γ a ρ μ).bind fun x μ => match x with
    | .int i => .ok (.int (Builtin.Int.intBits i)) μ
    | _ => .stuck
  | .notv t, ρ, μ => (evalT Γ t ρ μ).bind fun b μ => .ok (.bl (!b)) μ
  | .and a b, ρ, μ => (evalE Γ a ρ μ).bind fun x μ => (truD μ x μ).bind fun k μ => if k then evalE Γ b ρ μ else .ok x μ
  | .or a b, ρ, μ => (evalE Γ a ρ μ).bind fun x μ => (truD μ x μ).bind fun k μ => if k then .ok x μ else evalE Γ b ρ μ
  | .cmp o a b, ρ, μ => (evalE Γ a ρ μ).bind fun x μ => (evalE Γ b ρ μ).bind fun y μ => (cmpD o x y μ).bind fun k μ => .ok (.bl k) μ
  | .chn o o' a b c, ρ, μ => (evalE Γ a ρ μ).bind fun x μ => (evalE Γ b ρ μ).bind fun y μ => (cmpD o x y μ).bind fun k μ =>
      if k then (evalE Γ c ρ μ).bind fun z μ => (cmpD o' y z μ).bind fun k μ => .ok (.bl k) μ else .ok (.bl false) μ
  | .ite t a b, ρ, μ => (evalT Γ t ρ μ).bind fun k μ => if k then evalE Γ a ρ μ else evalE Γ b ρ μ
  | .call f as, ρ, μ => (evalEs Γ as ρ μ).bind fun ds μ => Γ.call f ds μ
  | .bif b as, ρ, μ => (evalEs Γ as ρ μ).bind fun ds μ => bifD b ds μ
  | .isi a t, ρ, μ => (evalE Γ a ρ μ).bind fun x μ => isiD x t μ
  | .met m o as, ρ, μ => (evalE Γ o ρ μ).bind fun x μ => needs (tyD m x μ = true) ((evalEs Γ as ρ μ).bind fun ds μ => metD m x ds μ)
  | .tr37 o, ρ, μ => (evalE Γ o ρ μ).bind fun x μ => tr37D x μ
  | .idx a b, ρ, μ => (evalE Γ a ρ μ).bind fun x μ => (evalE Γ b ρ μ).bind fun y μ => idxD x y μ
  | .slc a lo hi, ρ, μ => (evalE Γ a ρ μ).bind fun x μ => (evalO Γ lo ρ μ).bind fun l μ => (evalO Γ hi ρ μ).bind fun h μ => slcD x l h μ
  | .tup es, ρ, μ => (evalEs Γ es ρ μ).bind fun ds μ => needs (ds.length ≤ 16777216) (.ok (.tup ds) μ)
  | .lst es, ρ, μ => (evalEs Γ es ρ μ).bind fun ds μ => needs (ds.length ≤ 16777216) (.ok (.lst ds) μ)
  | .comp own tg it c e, ρ, μ => (evalIt Γ it ρ μ).bind fun ds μ =>
      (compLoop (fun d μ => match assignT tg d (wipeR ρ own) with
        | none => .stuck
        | some ρ' => (evalT Γ c ρ' μ).bind fun k μ => if k then (evalE Γ e ρ' μ).bind fun y μ => .ok (some y) μ else .ok none μ) (chkOf ds.2) [] ds.1 μ).bind fun l μ => .ok (.lst l) μ
  | .gdict g k, ρ, μ => (evalE Γ k ρ μ).bind fun x μ => match x with
    | .str s => match (Γ.dic g).lookup s with
      | some d => .ok d μ
      | none => .stuck
    | _ => .stuck
  | .gin neg g k, ρ, μ => (evalE Γ k ρ μ).bind fun x μ => match x with
    | .str s => .ok (.bl (if neg then !((Γ.dic g).lookup s).isSome else ((Γ.dic g).lookup s).isSome)) μ
    | _ => .stuck
  | .fmt a, ρ, μ => (evalE Γ a ρ μ).bind fun x μ => match x with
    | .str y => needs (y.length ≤ 16777216) (.ok (.str y) μ)
    | .int i => needs (i.natAbs.log2 < 1920) (.ok (.str (toString i)) μ)
    | _ => .stuck
  | .fs es, ρ, μ => evalJ Γ es Str.empty ρ μ
def evalJ (Γ : G) : Es → Str → Rho → Mu → Res D
  | .nil, acc, _, μ => .ok (.str acc) μ
  | .cons e es, acc, ρ, μ => (evalE Γ e ρ μ).bind fun x μ => match x with
    | .str y => needs ((acc ++ y).length ≤ 16777216) (evalJ Γ es (acc ++ y) ρ μ)
    | _ => .stuck
def evalEs (Γ : G) : Es → Rho → Mu → Res (List D)
  | .nil, _, μ => .ok [] μ
  | .cons e es, ρ, μ => (evalE Γ e ρ μ).bind fun d μ => (evalEs Γ es ρ μ).bind fun ds μ => .ok (d :: ds) μ
def evalO (Γ : G) : O → Rho → Mu → Res (Option Int)
  | .none, _, μ => .ok none μ
  | .some e, ρ, μ => (evalE Γ e ρ μ).bind fun d μ => match d with
    | .int i => .ok (some i) μ
    | _ => .stuck
def evalT (Γ : G) : T → Rho → Mu → Res Bool
  | .yes, _, μ => .ok true μ
  | .val e, ρ, μ => (evalE Γ e ρ μ).bind fun d μ => truD μ d μ
  | .not t, ρ, μ => (evalT Γ t ρ μ).bind fun b μ => .ok (!b) μ
  | .and t u, ρ, μ => (evalT Γ t ρ μ).bind fun b μ => if b then evalT Γ u ρ μ else .ok false μ
  | .or t u, ρ, μ => (evalT Γ t ρ μ).bind fun b μ => if b then .ok true μ else evalT Γ u ρ μ
def evalIt (Γ : G) : IT → Rho → Mu → Res Its
  | .seq e, ρ, μ => (evalE Γ e ρ μ).bind fun d μ => itD d μ
  | .rng1 a, ρ, μ => (evalE Γ a ρ μ).bind fun x μ => match x with
    | .int j => needs (lim62 j) (.ok (rngD 0 j.toNat, none) μ)
    | _ => .stuck
  | .rng2 a b, ρ, μ => (evalE Γ a ρ μ).bind fun x μ => (evalE Γ b ρ μ).bind fun y μ => match x, y with
    | .int i, .int j => needs (lim62 i ∧ lim62 j) (.ok (rngD i (j - i).toNat, none) μ)
    | _, _ => .stuck
end

/-! ### statements -/
def evalR (Γ : G) : R → Rho → Mu → Res D
  | .base e, ρ, μ => evalE Γ e ρ μ
  | .repl r y z, ρ, μ => (evalR Γ r ρ μ).bind fun x μ => replD x y z μ
inductive Out where
  | nx (ρ : Rho) (μ : Mu)
  | br (ρ : Rho) (μ : Mu)
  | ct (ρ : Rho) (μ : Mu)
  | rt (d : D) (μ : Mu)
  | er (c : Nat) (fs : List D) (ρ : Rho) (μ : Mu)
  | stuck
def Res.then {α : Type} (r : Res α) (ρ : Rho) (f : α → Mu → Out) : Out := match r with
  | .ok a μ => f a μ
  | .err c fs μ => .er c fs ρ μ
  | .stuck => .stuck
def Out.next (o : Out) (f : Rho → Mu → Out) : Out := match o with
  | .nx ρ μ => f ρ μ
  | o => o
def forLoop (f : D → Rho → Mu → Out) (chk : Mu → Bool) : List D → Rho → Mu → Out
  | [], ρ, μ => if chk μ then .nx ρ μ else .stuck
  | d :: ds, ρ, μ => if chk μ then (match f d ρ μ with
      | .nx ρ' μ' => forLoop f chk ds ρ' μ'
      | .ct ρ' μ' => forLoop f chk ds ρ' μ'
      | .br ρ' μ' => .nx ρ' μ'
      | o => o) else .stuck
def whileLoop (c : Rho → Mu → Res Bool) (f : Rho → Mu → Out) : Nat → Rho → Mu → Out
  | 0, _, _ => .stuck
  | n + 1, ρ, μ => (c ρ μ).then ρ fun k μ => if k then (match f ρ μ with
      | .nx ρ' μ' => whileLoop c f n ρ' μ'
      | .ct ρ' μ' => whileLoop c f n ρ' μ'
      | .br ρ' μ' => .nx ρ' μ'
      | o => o) else .nx ρ μ
mutual
def runS (Γ : G) : S → Rho → Mu → Out
  | .setR i r, ρ, μ => (evalR Γ r ρ μ).then ρ fun d μ => .nx (ρ.set i (some d)) μ
  | .retR pre r post, ρ, μ => (evalR Γ r ρ μ).then ρ fun x μ => ((binD .add (.str pre) x μ).bind fun y μ => binD .add y (.str post) μ).then ρ fun d μ => .rt d μ
  | .set tg e, ρ, μ => (evalE Γ e ρ μ).then ρ fun d μ => match assignT tg d ρ with
    | some ρ' => .nx ρ' μ
    | none => .stuck
  | .new i e, ρ, μ => (evalE Γ e ρ μ).then ρ fun d μ => match d with
    | .lst l => .nx (ρ.set i (some (.ref μ.length))) (μ ++ [.lst l])
    | _ => .stuck
  | .setIx o i v, ρ, μ => (evalE Γ v ρ μ).then ρ fun x μ => (evalE Γ o ρ μ).then ρ fun y μ => (evalE Γ i ρ μ).then ρ fun z μ => (setIxD y z x μ).then ρ fun _ μ => .nx ρ μ
  | .aug i o e, ρ, μ => match ρ[i]? with
    | some (some (.int x)) => (evalE Γ e ρ μ).then ρ fun y μ => match o, y with
      | .add, .int j => .nx (ρ.set i (some (.int (x + j)))) μ
      | .sub, .int j => .nx (ρ.set i (some (.int (x - j)))) μ
      | _, _ => .stuck
    | _ => .stuck
  | .expr e, ρ, μ => (evalE Γ e ρ μ).then ρ fun _ μ => .nx ρ μ
  | .ifs t a b, ρ, μ => (evalT Γ t ρ μ).then ρ fun k μ => if k then runB Γ a ρ μ else runB Γ b ρ μ
  | .for_ tg it b, ρ, μ => (evalIt Γ it ρ μ).then ρ fun ds μ => forLoop (fun d ρ μ => match assignT tg d ρ with
      | some ρ' => runB Γ b ρ' μ
      | none => .stuck) (chkOf ds.2) ds.1 ρ μ
  | .whl t b, ρ, μ => whileLoop (fun ρ μ => evalT Γ t ρ μ) (fun ρ μ => runB Γ b ρ μ) Γ.wf ρ μ
  | .ret e, ρ, μ => (evalE Γ e ρ μ).then ρ fun d μ => .rt d μ
  | .retN, _, μ => .rt .non μ
  | .pass, ρ, μ => .nx ρ μ
  | .brk, ρ, μ => .br ρ μ
  | .cnt, ρ, μ => .ct ρ μ
  | .bad, _, _ => .stuck
def runB (Γ : G) : B → Rho → Mu → Out
  | .nil, ρ, μ => .nx ρ μ
  | .cons s b, ρ, μ => (runS Γ s ρ μ).next fun ρ μ => runB Γ b ρ μ
end

/-! ### defs -/
structure Fn where
  np : Nat
  ns : Nat
  body : B
/-- what a def made is forgotten where nothing points at it; a list that it made is handed back by value -/
def fin (n : Nat) (d : D) (μ : Mu) : Res D :=
  if μ.length = n then .ok d μ else
    let d' := match d with
      | .ref k => if n ≤ k then (match μ[k]? with
          | some (.lst l) => .lst l
          | _ => d) else d
      | _ => d
    if below n d' = true ∧ (μ.take n).all (belowMO n) = true ∧ n ≤ μ.length then .ok d' (μ.take n) else .ok d μ
def finO (n : Nat) : Out → Res D
  | .nx _ μ => fin n .non μ
  | .rt d μ => fin n d μ
  | .er c fs _ μ => if μ.length = n then .err c fs μ else if belows n fs = true ∧ (μ.take n).all (belowMO n) = true ∧ n ≤ μ.length then .err c fs (μ.take n) else .err c fs μ
  | _ => .stuck
def startR (ns : Nat) (ds : List D) : Rho := ds.map some ++ List.replicate (ns - ds.length) none
def callD (tab : List Fn) (con : Nat → Option D) (dic : Nat → List (Str × D)) (wf : Nat) : Nat → Nat → List D → Mu → Res D
  | 0, _, _, _ => .stuck
  | k + 1, f, ds, μ => match tab[f]? with
    | some fn => if ds.length = fn.np then finO μ.length (runB ⟨callD tab con dic wf k, con, dic, wf⟩ fn.body (startR fn.ns ds) μ) else .stuck
    | none => .stuck
end PyI
/-! A3: what the model does, in the words of the interpreter: frames of the proof, and operators. -/
namespace PyI
open PySem L2

/-! ### canonical readings -/
section
variable (X : Cx)
def wE (e : Expr) : TE := fun σ H Q => ∀ pins s, Inv X pins σ H s → wpAny (model X.prog X.w) X.A (eval e X.env) (EP X pins σ Q) X.xe s
def wT (e : Expr) : TT := fun σ H Q => ∀ pins s, Inv X pins σ H s → wpAny (model X.prog X.w) X.A (isTrue e X.env (eval e X.env)) (TP X pins σ Q) X.xe s
def wA (es : List Expr) : TA := fun σ H Q => ∀ (pos : Pos) pins s, Inv X pins σ H s → wpAny (model X.prog X.w) X.A (spliced (backTo pos (starEach es X.env))) (AP X pins σ Q) X.xe s
def wI (tg iter : Expr) : TI := fun σ H (R : L2.It → Hp → Prop) => ∀ pins s, Inv X pins σ H s →
  wpAny (model X.prog X.w) X.A (eval iter X.env) (fun v s1 => wpAny (model X.prog X.w) X.A (pyIter v) (PIE X pins σ tg R) X.xe s1) X.xe s
def wO (f : Value → Value → Sem Value) : R2 := fun x y H Q => ∀ pins s σ v u, Inv X pins σ H s → RelV x v → RelV y u → wpAny (model X.prog X.w) X.A (f v u) (EP X pins σ Q) X.xe s
def wU (f : Value → Sem Value) : V → Hp → VK → Prop := fun x H Q => ∀ pins s σ v, Inv X pins σ H s → RelV x v → wpAny (model X.prog X.w) X.A (f v) (EP X pins σ Q) X.xe s
def wC (f : Value) : List V → Hp → VK → Prop := fun xs H Q => ∀ pins s σ us, Inv X pins σ H s → Vals xs us → wpAny (model X.prog X.w) X.A (call f us) (EP X pins σ Q) X.xe s
def wM (id : String) : V → List V → Hp → VK → Prop := fun x xs H Q => ∀ pins s σ v us, Inv X pins σ H s → RelV x v → Vals xs us → wpAny (model X.prog X.w) X.A (call (.builtin id) (v :: us)) (EP X pins σ Q) X.xe s
end
section
variable {X : Cx} {e : Expr} {es : List Expr} {σ : St} {H : Hp} {Q : VK}
theorem pE : PE X e (wE X e) := ⟨fun pins s _ _ _ I h => h pins s I⟩
theorem pT : PT X e (wT X e) := ⟨fun pins s _ _ _ I h => h pins s I⟩
theorem pA : PA X es (wA X es) := ⟨fun pos pins s _ _ _ I h => h pos pins s I⟩
theorem pI {tg : Expr} : PI X tg e (wI X tg e) := ⟨fun pins s _ _ _ I h => h pins s I⟩
theorem pO {f : Value → Value → Sem Value} : OpR X f (wO X f) := fun pins s σ _ _ _ v u _ I r r' h => h pins s σ v u I r r'
theorem pU {f : Value → Sem Value} : UnR X f (wU X f) := fun pins s σ _ _ v _ I r h => h pins s σ v I r
theorem pC {f : Value} : CallR X f (wC X f) := fun pins s σ _ _ us _ I r h => h pins s σ us I r
theorem pM {id : String} : MtR X id (wM X id) := fun pins s σ _ _ _ v us _ I r r' h => h pins s σ v us I r r'
theorem we {t : TE} (p : PE X e t) (h : t σ H Q) : wE X e σ H Q := fun pins s I => p.run pins s σ H Q I h
theorem wt {t : TT} {Q : Bool → Hp → Prop} (p : PT X e t) (h : t σ H Q) : wT X e σ H Q := fun pins s I => p.run pins s σ H Q I h
theorem wa {t : TA} {Q : List V → Hp → Prop} (p : PA X es t) (h : t σ H Q) : wA X es σ H Q := fun pos pins s I => p.run pos pins s σ H Q I h
theorem wi {tg : Expr} {t : TI} {R : L2.It → Hp → Prop} (p : PI X tg e t) (h : t σ H R) : wI X tg e σ H R := fun pins s I => p.run pins s σ H R I h
theorem wo {f : Value → Value → Sem Value} {r : R2} {x y : V} (p : OpR X f r) (h : r x y H Q) : wO X f x y H Q := fun pins s σ v u I r r' => p pins s σ H x y v u Q I r r' h
theorem wu {f : Value → Sem Value} {r : V → Hp → VK → Prop} {x : V} (p : UnR X f r) (h : r x H Q) : wU X f x H Q := fun pins s σ v I r => p pins s σ H x v Q I r h
theorem wc {f : Value} {r : List V → Hp → VK → Prop} {xs : List V} (p : CallR X f r) (h : r xs H Q) : wC X f xs H Q := fun pins s σ us I r => p pins s σ H xs us Q I r h
theorem wm {id : String} {r : V → List V → Hp → VK → Prop} {x : V} {xs : List V} (p : MtR X id r) (h : r x xs H Q) : wM X id x xs H Q := fun pins s σ v us I r r' => p pins s σ H x xs v us Q I r r' h
end

/-! ### what is due of an answer -/
def ErrRep (K : PySem.W.Frag) (ct : CTab) (H : Hp) (M : AM) (c : Nat) (fs : List D) (cls : Value) (d : Option Addr) : Prop :=
  cls = .ref (ct.cls c) ∧ ∃ dx vs, d = some dx ∧ H dx = some (.xd vs) ∧ Reps K H M (vs.map (·.2)) fs
def Ok {α β : Type} (K : PySem.W.Frag) (ct : CTab) (R : Hp → AM → β → α → Prop) (M : AM) (H : Hp) (r : Res α) (Q : β → Hp → Prop) (W : XK) : Prop :=
  match r with
  | .ok a μ' => ∀ v H' M', Evo M H M' H' → RelH K ct H' μ' M' → R H' M' v a → Q v H'
  | .err c fs μ' => ∀ cls d H' M', Evo M H M' H' → RelH K ct H' μ' M' → ErrRep K ct H' M' c fs cls d → W cls d H'
  | .stuck => False
abbrev RD (K : PySem.W.Frag) : Hp → AM → V → D → Prop := fun H M v d => Rep K H M v d
abbrev RDs (K : PySem.W.Frag) : Hp → AM → List V → List D → Prop := fun H M v d => Reps K H M v d
abbrev RB : Hp → AM → Bool → Bool → Prop := fun _ _ v d => v = d
abbrev RO : Hp → AM → Option Int → Option Int → Prop := fun _ _ v d => v = d
abbrev RU : Hp → AM → Unit → Unit → Prop := fun _ _ _ _ => True
section
variable {α β γ δ : Type} {K : PySem.W.Frag} {ct : CTab} {R : Hp → AM → β → α → Prop} {R' : Hp → AM → δ → γ → Prop} {M M1 : AM} {H H1 : Hp} {r : Res α} {μ : Mu} {Q Q1 : β → Hp → Prop} {W : XK}
theorem Ok.evo (e : Evo M H M1 H1) (h : Ok K ct R M H r Q W) : Ok K ct R M1 H1 r Q W := by
  cases r with
  | ok a μ' => exact fun v H' M' e' => h v H' M' (e.trans e')
  | err c fs μ' => exact fun cls d H' M' e' => h cls d H' M' (e.trans e')
  | stuck => exact h
theorem Ok.step {f : α → Mu → Res γ} {Q' : δ → Hp → Prop} (h : Ok K ct R' M H (r.bind f) Q' W)
    (k : ∀ a μ1 v H1 M1, Evo M H M1 H1 → RelH K ct H1 μ1 M1 → R H1 M1 v a → Ok K ct R' M1 H1 (f a μ1) Q' W → Q1 v H1) : Ok K ct R M H r Q1 W := by
  cases r with
  | ok a μ' => exact fun v H' M' e R1 r1 => k a μ' v H' M' e R1 r1 (Ok.evo e h)
  | err c fs μ' => exact h
  | stuck => exact h
theorem Ok.ret {a : α} {v : β} (h : Ok K ct R M H (.ok a μ) Q W) (R1 : RelH K ct H μ M) (r1 : R H M v a) : Q v H := h v H M (Evo.refl M H) R1 r1
theorem Ok.needs {p : Prop} [Decidable p] (h : Ok K ct R M H (needs p r) Q W) : p ∧ Ok K ct R M H r Q W := by
  unfold PyI.needs at h
  by_cases q : p
  · rw [if_pos q] at h; exact ⟨q, h⟩
  · rw [if_neg q] at h; exact h.elim
theorem Ok.imp (h : Ok K ct R M H r Q W) (k : ∀ v H', Q v H' → Q1 v H') : Ok K ct R M H r Q1 W := by
  cases r with
  | ok a μ' => exact fun v H' M' e R1 r1 => k v H' (h v H' M' e R1 r1)
  | err c fs μ' => exact h
  | stuck => exact h
end

/-! ### the frame in which a def's text is read -/
structure Tb where
  fns : List (Str × Nat)
  cons : List Str
  dics : List Str
def spF (K : PySem.W.Frag) (ct : CTab) (Γ : G) (f n : Nat) : Sp := fun vs H Q E => ∃ ds μ M, vs.length = n ∧ RelH K ct H μ M ∧ Reps K H M vs ds ∧ Ok K ct (RD K) M H (Γ.call f ds μ) Q E
def bins : List Str := ["len", "int", "str", "tuple", "list", "sorted", "min", "max", "sum", "any", "all", "abs", "ord", "bool", "isinstance", "range", "enumerate", "zip", "set", "type", "reversed"]
/-- a dict of the module with text keys -/
def DicAt (K : PySem.W.Frag) (w : World) (d : Addr) (l : List (Str × D)) : Prop := ∃ es n, KDict K w d es n ∧ ∀ z, match l.lookup z with
  | none => PySem.W.nsIn K d z = some none
  | some dd => ∃ u v, PySem.W.nsIn K d z = some (some u) ∧ RelV v u ∧ ∀ H M, Rep K H M v dd
structure FrG (P : Program) (w : World) (K : PySem.W.Frag) (mg : Str → Option Value) (base : Heap) (A : Around) (ct : CTab) (tb : Tb) (Γ : G) : Prop where
  units : A.units + 64 < cLine
  bi : ∀ x ∈ bins, mg x = none
  call : ∀ f x n, tb.fns[f]? = some (x, n) → ∃ k a fd ps, FnOk P w K mg base (L2.CX P w) k a fd ps (spF K ct Γ f n) ∧ Room k A ∧ mg x = some (.ref a) ∧ PySem.W.keepIn K (.ref a) = true ∧ Binds K fd ps []
  ar : ∀ f x n ds μ, tb.fns[f]? = some (x, n) → ds.length ≠ n → Γ.call f ds μ = .stuck
  con : ∀ g x d, tb.cons[g]? = some x → Γ.con g = some d → ∃ u v, mg x = some u ∧ RelV v u ∧ ∀ H M, Rep K H M v d
  dic : ∀ g x, tb.dics[g]? = some x → ∃ d, mg x = some (.ref d) ∧ DicAt K w d (Γ.dic g)
structure Fr (X : Cx) (ct : CTab) (tb : Tb) (Γ : G) (N : List Str) (sc : Scope) : Prop where
  hN : X.N = N
  hsc : X.env.scope = sc
  nd : N.Nodup
  calm : X.calm = true
  kindF : sc.kind = .function
  g : FrG X.prog X.w X.K X.mg X.base X.A ct tb Γ

/-- e is evaluated as A tells -/
def Snd (X : Cx) (ct : CTab) (Γ : G) (e : Expr) (A : E) : Prop := ∀ (W : WX) (ρ : Rho) (μ : Mu) (σ : St) (H : Hp) (M : AM) (Q : VK), Takes X W → RelE X.K H M σ ρ → RelH X.K ct H μ M →
  Ok X.K ct (RD X.K) M H (evalE Γ A ρ μ) Q (fun c d H' => W c d σ H') → wE X e σ H Q
def SndA (X : Cx) (ct : CTab) (Γ : G) (es : List Expr) (A : Es) : Prop := ∀ (W : WX) (ρ : Rho) (μ : Mu) (σ : St) (H : Hp) (M : AM) (Q : List V → Hp → Prop), Takes X W → RelE X.K H M σ ρ → RelH X.K ct H μ M →
  Ok X.K ct (RDs X.K) M H (evalEs Γ A ρ μ) Q (fun c d H' => W c d σ H') → wA X es σ H Q
def SndT (X : Cx) (ct : CTab) (Γ : G) (e : Expr) (A : T) : Prop := ∀ (W : WX) (ρ : Rho) (μ : Mu) (σ : St) (H : Hp) (M : AM) (Q : Bool → Hp → Prop), Takes X W → RelE X.K H M σ ρ → RelH X.K ct H μ M →
  Ok X.K ct RB M H (evalT Γ A ρ μ) Q (fun c d H' => W c d σ H') → wT X e σ H Q

/-! ### values -/
section
variable {X : Cx} {ct : CTab} {K : PySem.W.Frag} {H : Hp} {M : AM} {μ : Mu} {x y z v : V} {d d' : D} {Q : VK} {W : XK}
theorem sl16 {n : Nat} (h : n ≤ 16777216) : n ≤ sizeLine := by rw [sizeLine_eq]; exact h
theorem sl16' {n : Nat} (h : n < 16777216) : n < sizeLine := by rw [sizeLine_eq]; exact h
/-- a list object of ours -/
theorem RelH.lst (R : RelH K ct H μ M) {n : Nat} {l : List D} {a : Addr} (h : μ[n]? = some (.lst l)) (ha : M.ix[n]? = some a) : ∃ xs, H a = some (.lst xs) ∧ Reps K H M xs l := by
  obtain ⟨a', e, xs, h1, r⟩ := R.at_ n _ h
  rw [ha] at e; cases e
  exact ⟨xs, h1, r⟩
/-- the items of a list or a tuple -/
theorem seq_of (R : RelH K ct H μ M) (r : Rep K H M x d) {l : List D} (h : seqD μ d = some l) : ∃ a xs, x = .ref a ∧ (SqL K H a xs ∨ SqT K H a xs) ∧ Reps K H M xs l := by
  cases r with
  | tup h1 r1 => cases h; exact ⟨_, _, rfl, .inr h1.sq, r1⟩
  | lst h1 r1 => cases h; exact ⟨_, _, rfl, .inl h1.sq, r1⟩
  | kl h1 r1 => cases h; exact ⟨_, _, rfl, .inl h1.sq, r1⟩
  | ref ha =>
    unfold seqD at h
    simp only at h
    split at h
    · rename_i l' hl
      cases h
      obtain ⟨xs, h1, r1⟩ := R.lst hl ha
      exact ⟨_, _, rfl, .inl (.inl (.inl h1)), r1⟩
    · cases h
  | non => cases h
  | bl => cases h
  | int => cases h
  | str => cases h
theorem Rep.int_inv {i : Int} (r : Rep K H M x (.int i)) : x = .int i := by cases r; rfl
theorem Rep.str_inv {s : Str} (r : Rep K H M x (.str s)) : x = .str s := by cases r; rfl
theorem Rep.bl_inv {b : Bool} (r : Rep K H M x (.bl b)) : x = .bl b := by cases r; rfl
theorem Rep.non_inv (r : Rep K H M x .non) : x = .non := by cases r; rfl

/-- a new tuple, a new list -/
theorem Ok.newT {ds : List D} (h : Ok K ct (RD K) M H (.ok (.tup ds) μ) Q W) (R : RelH K ct H μ M) (r : Reps K H M xs ds) {p : Addr} (hp : H p = none) : Q (.ref p) (upd H p (.tup xs)) :=
  h _ _ M (Evo.new hp) (R.new hp) (.tup (.inl ⟨.inl upd_same, R.fresh hp⟩) (r.evo (Evo.new hp)))
theorem Ok.newL {ds : List D} (h : Ok K ct (RD K) M H (.ok (.lst ds) μ) Q W) (R : RelH K ct H μ M) (r : Reps K H M xs ds) {p : Addr} (hp : H p = none) : Q (.ref p) (upd H p (.lst xs)) :=
  h _ _ M (Evo.new hp) (R.new hp) (.lst ⟨.inl upd_same, R.fresh hp⟩ (r.evo (Evo.new hp)))
theorem lst_of (R : RelH K ct H μ M) (r : Rep K H M x d) {l : List D} (h : lstD μ d = some l) : ∃ a xs, x = .ref a ∧ Rd H a (.lst xs) ∧ Reps K H M xs l := by
  cases r with
  | lst h1 r1 => cases h; exact ⟨_, _, rfl, h1.1, r1⟩
  | kl => cases h
  | ref ha =>
    unfold lstD at h
    simp only at h
    split at h
    · rename_i l' hl
      cases h
      obtain ⟨xs, h1, r1⟩ := R.lst hl ha
      exact ⟨_, _, rfl, .inl h1, r1⟩
    · cases h
  | tup => cases h
  | non => cases h
  | bl => cases h
  | int => cases h
  | str => cases h
theorem strRep_one {s : Str} : strRep s (Int.toNat 1) = s := by
  show Str.mk (#[] ++ s.cps) = s
  rw [Array.empty_append]
theorem strRep_len (s : Str) (n : Nat) : (strRep s n).length = n * s.length := by
  have f : ∀ (n : Nat) (acc : Array Nat), ((List.replicate n s.cps).foldl (· ++ ·) acc).size = acc.size + n * s.cps.size := fun n => by
    induction n with
    | zero => intro acc; simp
    | succ n ih =>
      intro acc
      rw [List.replicate_succ, List.foldl_cons, ih, Array.size_append, Nat.add_assoc, Nat.succ_mul, Nat.add_comm s.cps.size]
  exact (f n #[]).trans (by show 0 + _ = n * s.cps.size; rw [Nat.zero_add])
theorem strRep_nil {s : Str} (h : s.length = 0) {n : Nat} : strRep s n = s := by
  have e : s.cps = #[] := Array.eq_empty_of_size_eq_zero h
  have f : ∀ n : Nat, (List.replicate n (#[] : Array Nat)).foldl (· ++ ·) #[] = #[] := fun n => by
    induction n with
    | zero => rfl
    | succ n ih => rw [List.replicate_succ, List.foldl_cons]; exact ih
  cases s with
  | mk c =>
    unfold strRep
    simp only at e
    rw [e]
    simp only [f]
/-- a text, so many times -/
theorem op_mulS : OpR X (binaryOp .Mult) (fun x y H Q => ∃ s k, x = .str s ∧ y = .int k ∧ -(2 ^ 62) ≤ k ∧ k < 2 ^ 62 ∧ s.length * k.toNat ≤ sizeLine ∧ Q (.str (strRep s k.toNat)) H) := by
  intro pins st σ H x y v u Q I rx ry h
  obtain ⟨s, k, rfl, rfl, k1, k2, hz, q⟩ := h
  obtain ⟨t, rfl⟩ := rx
  obtain ⟨u, rfl⟩ := ry
  refine PySem.P.mul_str ?_ ?_ ?_ ?_
  · rw [decide_eq_false (by omega), decide_eq_false (by omega)]; rfl
  · intro h1 _ h2
    have h3 : (0 : Int) < k := by omega
    have h4 := Int.lt_mul_of_ediv_lt h3 h2
    rw [sizeLine_eq] at hz
    have h5 : ((s.length * k.toNat : Nat) : Int) ≤ ((16777216 : Nat) : Int) := Int.ofNat_le.mpr hz
    rw [Int.natCast_mul, Int.toNat_of_nonneg (Int.le_of_lt h3)] at h5
    generalize (s.length : Int) * k = m at h4 h5
    omega
  · intro _ _
    have : s.length * k.toNat ≤ 16777216 := by rw [sizeLine_eq] at hz; exact hz
    exact decide_eq_false (by omega)
  · split
    · rename_i h1
      have e : strRep s k.toNat = Str.empty := by
        unfold strRep
        rw [Int.toNat_eq_zero.mpr (by omega)]; rfl
      rw [e] at q
      exact ⟨Nat.zero_le _, .str _, H, I.tok _, ⟨_, rfl⟩, q⟩
    · rename_i h1
      split
      · rename_i h2
        have e : strRep s k.toNat = s := by
          simp only [Bool.or_eq_true, beq_iff_eq] at h2
          rcases h2 with h2 | h2
          · rw [h2]; exact strRep_one
          · exact strRep_nil h2
        rw [e] at q
        exact ⟨.str _, H, I, ⟨_, rfl⟩, q⟩
      · exact ⟨by have := strRep_len s k.toNat; unfold strRep at this; rw [this, Nat.mul_comm]; exact hz, .str _, H, I.tok _, ⟨_, rfl⟩, q⟩
/-- a list put behind a list: of our data too -/
theorem op_catL : OpR X (binaryOp .Add) (fun x y H Q => ∃ l b xs zs, x = .ref l ∧ y = .ref b ∧ Rd H l (.lst xs) ∧ Rd H b (.lst zs) ∧ xs.length + zs.length ≤ sizeLine ∧ ∀ p, H p = none → Q (.ref p) (upd H p (.lst (xs ++ zs)))) := by
  intro pins s σ H x y v u Q I rx ry h
  obtain ⟨l, b, xs, zs, rfl, rfl, hl, hb, hz, q⟩ := h
  cases rx
  cases ry
  obtain ⟨_, its, n1, r1, e1⟩ := hl.ok I.hok
  obtain ⟨_, its2, n2, r2, e2⟩ := hb.ok I.hok
  have hlen : its.toArray.size + its2.toArray.size ≤ sizeLine := by
    rw [List.size_toArray, List.size_toArray, ← r1.length, ← r2.length]
    exact hz
  refine PySem.P.add_list e1 e2 ?_ hlen
  rw [List.append_toArray]
  exact ⟨.ref _, _, I.lnew (t' := s.toks) (r1.append r2) (by rw [List.length_append]; exact hz), rfl, q _ I.fresh⟩
theorem bin_ok {op : Operator} {o : Bop} (ho : (match op with | .Add => some Bop.add | .Sub => some .sub | .Mult => some .mul | .FloorDiv => some .fdiv | .Mod => some .mod | .Pow => some .pow | .LShift => some .shl | .RShift => some .shr | .BitAnd => some .band | .BitOr => some .bor | .BitXor => some .bxor | _ => none) = some o)
    (R : RelH X.K ct H μ M) (rx : Rep X.K H M x d) (ry : Rep X.K H M y d') (h : Ok X.K ct (RD X.K) M H (binD o d d' μ) Q W) : wO X (binaryOp op) x y H Q := by
  unfold binD at h
  split at h
  case h_1 i j => cases op <;> cases ho; cases rx; cases ry; exact wo op_add ⟨i, j, rfl, rfl, h.ret R (.int _)⟩
  case h_2 i j => cases op <;> cases ho; cases rx; cases ry; exact wo op_sub ⟨i, j, rfl, rfl, h.ret R (.int _)⟩
  case h_3 i j =>
    cases op <;> cases ho
    cases rx; cases ry
    rcases h.needs.1 with q | q
    · exact wo op_mul ⟨i, j, rfl, rfl, q, h.needs.2.ret R (.int _)⟩
    · exact wo op_mulW ⟨i, j, rfl, rfl, q, h.needs.2.ret R (.int _)⟩
  case h_4 i j =>
    cases op <;> cases ho
    cases rx; cases ry
    rcases h.needs.1 with ⟨q0, q | q⟩
    · exact wo op_fdiv ⟨i, j, rfl, rfl, ⟨q0, q⟩, h.needs.2.ret R (.int _)⟩
    · exact wo op_fdivW ⟨i, j, rfl, rfl, ⟨q0, q⟩, h.needs.2.ret R (.int _)⟩
  case h_5 i j => cases op <;> cases ho; cases rx; cases ry; exact wo op_mod ⟨i, j, rfl, rfl, h.needs.1, h.needs.2.ret R (.int _)⟩
  case h_6 i j => cases op <;> cases ho; cases rx; cases ry; exact wo op_pow ⟨i, j, rfl, rfl, h.needs.1, h.needs.2.ret R (.int _)⟩
  case h_7 i j =>
    cases op <;> cases ho
    cases rx; cases ry
    rcases h.needs.1 with q | q
    · exact wo op_shl ⟨i, j, rfl, rfl, q, h.needs.2.ret R (.int _)⟩
    · exact wo op_shlW ⟨i, j, rfl, rfl, q, h.needs.2.ret R (.int _)⟩
  case h_8 i j => cases op <;> cases ho; cases rx; cases ry; exact wo op_shr ⟨i, j, rfl, rfl, h.needs.1, h.needs.2.ret R (.int _)⟩
  case h_9 i j => cases op <;> cases ho; cases rx; cases ry; exact wo op_and ⟨i, j, rfl, rfl, h.ret R (.int _)⟩
  case h_10 i j => cases op <;> cases ho; cases rx; cases ry; exact wo op_or ⟨i, j, rfl, rfl, h.ret R (.int _)⟩
  case h_11 i j => cases op <;> cases ho; cases rx; cases ry; exact wo op_xor ⟨i, j, rfl, rfl, h.ret R (.int _)⟩
  case h_12 i j => cases op <;> cases ho; cases rx; cases ry; exact wo op_add_str ⟨i, j, rfl, rfl, sl16 h.needs.1, h.needs.2.ret R (.str _)⟩
  case h_13 i j =>
    cases op <;> cases ho
    cases rx with
    | tup h1 r1 =>
      cases ry with
      | tup h2 r2 =>
        have h3 := h.needs.2
        refine wo op_catA ⟨_, _, _, _, rfl, rfl, h1.sq, h2.sq, ?_, fun e => ?_, fun _ e => ?_, fun _ _ p hp => Ok.newT (μ := μ) h3 R (r1.append r2) hp⟩
        · rw [r1.length, r2.length]; exact sl16 h.needs.1
        · subst e; cases r1; exact h3.ret R (.tup h2 r2)
        · subst e
          cases r2
          rw [List.append_nil] at h3
          exact h3.ret R (.tup h1 r1)
  case h_14 i j =>
    cases op <;> cases ho
    cases rx; cases ry
    exact wo op_mulS ⟨i, j, rfl, rfl, h.needs.1.1.1, h.needs.1.1.2, sl16 h.needs.1.2, h.needs.2.ret R (.str _)⟩
  case h_15 =>
    cases op <;> cases ho
    split at h
    · rename_i i j e1 e2
      obtain ⟨a, xs, rfl, hs, rs⟩ := lst_of R rx e1
      obtain ⟨b, ys, rfl, ht, rt⟩ := lst_of R ry e2
      refine wo op_catL ⟨_, _, _, _, rfl, rfl, hs, ht, ?_, fun p hp => Ok.newL (μ := μ) h.needs.2 R (rs.append rt) hp⟩
      rw [rs.length, rt.length]; exact sl16 h.needs.1
    · exact h.elim
  case h_16 => exact h.elim


/-! ### equality -/
mutual
def PD : D → PyData
  | .non => .none
  | .bl b => .bool b
  | .int i => .int i
  | .str s => .str s
  | .tup l => .tuple (PDs l)
  | .lst l => .list (PDs l)
  | .ref _ => .none
  | .kl _ => .none
def PDs : List D → List PyData
  | [] => []
  | d :: ds => PD d :: PDs ds
end
mutual
theorem dp_of {n : Nat} : ∀ {x : V} {d : D}, Rep K H M x d → eqOk n d = true → Dp K H x (PD d)
  | _, _, .non, _ => .non
  | _, _, .bl b, _ => .bl b
  | _, _, .int i, _ => .int i
  | _, _, .str s, _ => .str s
  | _, _, .tup h r, q => by
    cases n with
    | zero => simp [eqOk] at q
    | succ n => exact .tup h.sq (dps_of r (by simpa only [eqOk] using q))
  | _, _, .lst h r, q => by
    cases n with
    | zero => simp [eqOk] at q
    | succ n => exact .lst h.sq (dps_of r (by simpa only [eqOk] using q))
  | _, _, .ref _, q => by cases n <;> simp [eqOk] at q
  | _, _, .kl _ _, q => by cases n <;> simp [eqOk] at q
theorem dps_of {n : Nat} : ∀ {xs : List V} {ds : List D}, Reps K H M xs ds → eqOks n ds = true → DpAll K H xs (PDs ds)
  | _, _, .nil, _ => .nil
  | _, _, .cons h r, q => by
    simp only [eqOks, Bool.and_eq_true] at q
    exact .cons (dp_of h q.1) (dps_of r q.2)
end
mutual
theorem lay_of : ∀ {n : Nat} {d : D}, eqOk n d = true → (PD d).canLay0 = true ∧ (PD d).depth ≤ n
  | _, .non, _ => ⟨rfl, Nat.zero_le _⟩
  | _, .bl _, _ => ⟨rfl, Nat.zero_le _⟩
  | _, .int _, _ => ⟨rfl, Nat.zero_le _⟩
  | n, .str s, q => ⟨by cases n <;> simpa [eqOk, PD, PyData.canLay0, PyData.strOk] using q, Nat.zero_le _⟩
  | 0, .tup _, q => by simp [eqOk] at q
  | 0, .lst _, q => by simp [eqOk] at q
  | n + 1, .tup l, q => by
    have z := lays_of (n := n) (ds := l) (by simpa only [eqOk] using q)
    exact ⟨by simpa only [PD, PyData.canLay0] using z.1, by simpa only [PD, PyData.depth] using Nat.succ_le_succ z.2⟩
  | n + 1, .lst l, q => by
    have z := lays_of (n := n) (ds := l) (by simpa only [eqOk] using q)
    exact ⟨by simpa only [PD, PyData.canLay0] using z.1, by simpa only [PD, PyData.depth] using Nat.succ_le_succ z.2⟩
  | n, .ref _, q => by cases n <;> simp [eqOk] at q
  | n, .kl _, q => by cases n <;> simp [eqOk] at q
theorem lays_of : ∀ {n : Nat} {ds : List D}, eqOks n ds = true → PyData.canLayAll0 (PDs ds) = true ∧ PyData.depthAll (PDs ds) ≤ n
  | _, [], _ => ⟨rfl, Nat.zero_le _⟩
  | n, d :: ds, q => by
    simp only [eqOks, Bool.and_eq_true] at q
    have a := lay_of q.1
    have b := lays_of q.2
    exact ⟨by simp only [PDs, PyData.canLayAll0, a.1, b.1, Bool.and_self], by simp only [PDs, PyData.depthAll]; exact Nat.max_le.mpr ⟨a.2, b.2⟩⟩
end
mutual
theorem eqv_of : ∀ {n m : Nat} {d e : D}, eqOk n d = true → eqOk m e = true → PyData.eqv (PD d) (PD e) = eqD d e
  | n, m, .ref _, _, q, _ => by cases n <;> simp [eqOk] at q
  | n, m, _, .ref _, _, q => by cases m <;> simp [eqOk] at q
  | n, m, .kl _, _, q, _ => by cases n <;> simp [eqOk] at q
  | n, m, _, .kl _, _, q => by cases m <;> simp [eqOk] at q
  | 0, _, .tup _, _, q, _ => by simp [eqOk] at q
  | 0, _, .lst _, _, q, _ => by simp [eqOk] at q
  | _, 0, _, .tup _, _, q => by simp [eqOk] at q
  | _, 0, _, .lst _, _, q => by simp [eqOk] at q
  | n + 1, m + 1, .tup a, .tup b, q, p => by
    simp only [PD, PyData.eqv, eqD]
    exact eqvs_of (n := n) (m := m) (by simpa only [eqOk] using q) (by simpa only [eqOk] using p)
  | n + 1, m + 1, .lst a, .lst b, q, p => by
    simp only [PD, PyData.eqv, eqD]
    exact eqvs_of (n := n) (m := m) (by simpa only [eqOk] using q) (by simpa only [eqOk] using p)
  | n + 1, m + 1, .tup a, .lst b, q, p => by simp only [PD, PyData.eqv, eqD]
  | n + 1, m + 1, .lst a, .tup b, q, p => by simp only [PD, PyData.eqv, eqD]
  | n + 1, m, .tup a, .non, q, p => by simp only [PD, PyData.eqv, eqD]
  | n + 1, m, .tup a, .bl _, q, p => by simp only [PD, PyData.eqv, eqD]
  | n + 1, m, .tup a, .int _, q, p => by simp only [PD, PyData.eqv, eqD]
  | n + 1, m, .tup a, .str _, q, p => by simp only [PD, PyData.eqv, eqD]
  | n + 1, m, .lst a, .non, q, p => by simp only [PD, PyData.eqv, eqD]
  | n + 1, m, .lst a, .bl _, q, p => by simp only [PD, PyData.eqv, eqD]
  | n + 1, m, .lst a, .int _, q, p => by simp only [PD, PyData.eqv, eqD]
  | n + 1, m, .lst a, .str _, q, p => by simp only [PD, PyData.eqv, eqD]
  | n, m + 1, .non, .tup _, q, p => by simp only [PD, PyData.eqv, eqD]
  | n, m + 1, .bl _, .tup _, q, p => by simp only [PD, PyData.eqv, eqD]
  | n, m + 1, .int _, .tup _, q, p => by simp only [PD, PyData.eqv, eqD]
  | n, m + 1, .str _, .tup _, q, p => by simp only [PD, PyData.eqv, eqD]
  | n, m + 1, .non, .lst _, q, p => by simp only [PD, PyData.eqv, eqD]
  | n, m + 1, .bl _, .lst _, q, p => by simp only [PD, PyData.eqv, eqD]
  | n, m + 1, .int _, .lst _, q, p => by simp only [PD, PyData.eqv, eqD]
  | n, m + 1, .str _, .lst _, q, p => by simp only [PD, PyData.eqv, eqD]
  | n, m, .non, .non, q, p => by simp only [PD, PyData.eqv, eqD]
  | n, m, .non, .bl _, q, p => by simp only [PD, PyData.eqv, eqD]
  | n, m, .non, .int _, q, p => by simp only [PD, PyData.eqv, eqD]
  | n, m, .non, .str _, q, p => by simp only [PD, PyData.eqv, eqD]
  | n, m, .bl _, .non, q, p => by simp only [PD, PyData.eqv, eqD]
  | n, m, .bl _, .bl _, q, p => by simp only [PD, PyData.eqv, eqD]
  | n, m, .bl _, .int _, q, p => by simp only [PD, PyData.eqv, eqD]
  | n, m, .bl _, .str _, q, p => by simp only [PD, PyData.eqv, eqD]
  | n, m, .int _, .non, q, p => by simp only [PD, PyData.eqv, eqD]
  | n, m, .int _, .bl _, q, p => by simp only [PD, PyData.eqv, eqD]
  | n, m, .int _, .int _, q, p => by simp only [PD, PyData.eqv, eqD]
  | n, m, .int _, .str _, q, p => by simp only [PD, PyData.eqv, eqD]
  | n, m, .str _, .non, q, p => by simp only [PD, PyData.eqv, eqD]
  | n, m, .str _, .bl _, q, p => by simp only [PD, PyData.eqv, eqD]
  | n, m, .str _, .int _, q, p => by simp only [PD, PyData.eqv, eqD]
  | n, m, .str _, .str _, q, p => by simp only [PD, PyData.eqv, eqD]
theorem eqvs_of : ∀ {n m : Nat} {ds es : List D}, eqOks n ds = true → eqOks m es = true → PyData.eqvAll (PDs ds) (PDs es) = eqDs ds es
  | _, _, [], [], _, _ => by simp only [PDs, PyData.eqvAll, eqDs]
  | _, _, [], _ :: _, _, _ => by simp only [PDs, PyData.eqvAll, eqDs]
  | _, _, _ :: _, [], _, _ => by simp only [PDs, PyData.eqvAll, eqDs]
  | n, m, d :: ds, e :: es, q, p => by
    simp only [eqOks, Bool.and_eq_true] at q p
    simp only [PDs, PyData.eqvAll, eqDs, eqv_of q.1 p.1, eqvs_of q.2 p.2]
end
theorem shaped_of {d : D} (h : eqOk 64 d = true) : SeqAt.shaped (PD d) = true := by
  unfold SeqAt.shaped
  rw [(lay_of h).1, decide_eq_true (lay_of h).2]
  rfl
theorem Rep.deref (R : RelH K ct H μ M) (r : Rep K H M x d) (h : eqOk 64 (deref μ d) = true) : Dp K H x (PD (PyI.deref μ d)) := by
  cases r with
  | ref ha =>
    unfold PyI.deref at h ⊢
    simp only at h ⊢
    split at h
    · rename_i l' hl
      obtain ⟨xs, h1, r1⟩ := R.lst hl ha
      exact .lst (.inl (.inl h1)) (dps_of (n := 63) r1 (by simpa only [eqOk] using h))
    · simp [eqOk] at h
  | non => exact .non
  | bl b => exact .bl b
  | int i => exact .int i
  | str s => exact .str s
  | tup h1 r1 => exact dp_of (.tup h1 r1) h
  | lst h1 r1 => exact dp_of (.lst h1 r1) h
  | kl => simp [PyI.deref, eqOk] at h
/-- flat values -/
theorem flat_of (r : Rep K H M x d) (h : flatD d = true) : flatV x = true := by cases r <;> first | rfl | (simp [flatD] at h)
theorem flats_of : ∀ {xs : List V} {ds : List D}, Reps K H M xs ds → ds.all flatD = true → xs.all flatV = true
  | _, _, .nil, _ => rfl
  | _, _, .cons h r, q => by
    simp only [List.all_cons, Bool.and_eq_true] at q ⊢
    exact ⟨flat_of h q.1, flats_of r q.2⟩
theorem eqV_of (rx : Rep K H M x d) (ry : Rep K H M y d') (h : flatD d = true) (h' : flatD d' = true) : eqV x y = eqD d d' := by
  cases rx <;> first | (simp [flatD] at h; done) | (cases ry <;> first | (simp [flatD] at h'; done) | simp only [eqV, eqD])
theorem inV_of (rx : Rep K H M x d) (h : flatD d = true) : ∀ {xs : List V} {ds : List D}, Reps K H M xs ds → ds.all flatD = true → inV x xs = ds.any fun y => eqD y d
  | _, _, .nil, _ => rfl
  | _, _, .cons hh r, q => by
    simp only [List.all_cons, Bool.and_eq_true] at q
    have ih := inV_of rx h r q.2
    unfold inV at ih ⊢
    rw [List.any_cons, List.any_cons, ih, eqV_of hh rx q.1 h]
/-- is of a bool -/
def rIsB' (neg : Bool) : R2 := fun x y H Q => ∃ b, y = .bl b ∧ (match x with | .byt _ => False | .flt _ => False | .ty _ => False | _ => True) ∧ Q (.bl (if neg then !decide (x = .bl b) else decide (x = .bl b))) H
theorem op_isB' : OpR X (compareOp .Is) (rIsB' false) := by
  intro pins s σ H x y v u Q I rx ry h
  obtain ⟨b, rfl, hx, q⟩ := h
  cases (show u = Value.bool b from ry)
  cases x with
  | non => cases (show v = Value.none from rx); exact wpAny_is_other rfl (by intro z; cases z) ⟨.bl false, H, I, rfl, by simpa using q⟩
  | bl a =>
    cases (show v = Value.bool a from rx)
    by_cases e : a = b
    · subst e; exact wpAny_is_self rfl ⟨.bl true, H, I, rfl, by simpa using q⟩
    · exact wpAny_is_other rfl (fun z => e (Value.bool.inj z)) ⟨.bl false, H, I, rfl, by simpa [e] using q⟩
  | int i => obtain ⟨t, rfl⟩ := rx; exact wpAny_is_other rfl (by intro z; cases z) ⟨.bl false, H, I, rfl, by simpa using q⟩
  | str i => obtain ⟨t, rfl⟩ := rx; exact wpAny_is_other rfl (by intro z; cases z) ⟨.bl false, H, I, rfl, by simpa using q⟩
  | ref a => cases (show v = Value.ref a from rx); exact wpAny_is_other rfl (by intro z; cases z) ⟨.bl false, H, I, rfl, by simpa using q⟩
  | byt _ => exact hx.elim
  | flt _ => exact hx.elim
  | ty _ => exact hx.elim
theorem op_isnB' : OpR X (compareOp .IsNot) (rIsB' true) := by
  intro pins s σ H x y v u Q I rx ry h
  obtain ⟨b, rfl, hx, q⟩ := h
  cases (show u = Value.bool b from ry)
  cases x with
  | non => cases (show v = Value.none from rx); exact wpAny_isNot_other rfl (by intro z; cases z) ⟨.bl true, H, I, rfl, by simpa using q⟩
  | bl a =>
    cases (show v = Value.bool a from rx)
    by_cases e : a = b
    · subst e; exact wpAny_isNot_self rfl ⟨.bl false, H, I, rfl, by simpa using q⟩
    · exact wpAny_isNot_other rfl (fun z => e (Value.bool.inj z)) ⟨.bl true, H, I, rfl, by simpa [e] using q⟩
  | int i => obtain ⟨t, rfl⟩ := rx; exact wpAny_isNot_other rfl (by intro z; cases z) ⟨.bl true, H, I, rfl, by simpa using q⟩
  | str i => obtain ⟨t, rfl⟩ := rx; exact wpAny_isNot_other rfl (by intro z; cases z) ⟨.bl true, H, I, rfl, by simpa using q⟩
  | ref a => cases (show v = Value.ref a from rx); exact wpAny_isNot_other rfl (by intro z; cases z) ⟨.bl true, H, I, rfl, by simpa using q⟩
  | byt _ => exact hx.elim
  | flt _ => exact hx.elim
  | ty _ => exact hx.elim
def copOf : CmpOp → Cop
  | .Eq => .eq | .NotEq => .ne | .Lt => .lt | .LtE => .le | .Gt => .gt | .GtE => .ge | .Is => .is_ | .IsNot => .isnot | .In => .in_ | .NotIn => .notin
/-- comparisons: Q is asked at a bool -/
theorem cmp_ok {op : CmpOp} {B : Bool → Hp → Prop} (hu : X.A.units + 64 < cLine) (R : RelH X.K ct H μ M) (rx : Rep X.K H M x d) (ry : Rep X.K H M y d') (h : Ok X.K ct RB M H (cmpD (copOf op) d d' μ) B W) (hq : ∀ b H', B b H' → Q (.bl b) H') : wO X (compareOp op) x y H Q := by
  cases op
  case Eq =>
    obtain ⟨⟨h1, h2⟩, h⟩ := (show Ok X.K ct RB M H (needs (eqOk 64 (deref μ d) = true ∧ eqOk 64 (deref μ d') = true) (.ok (eqD (deref μ d) (deref μ d')) μ)) B W from h).needs
    refine wo (op_eqD hu) ⟨_, _, rx.deref R h1, ry.deref R h2, shaped_of h1, shaped_of h2, hq _ _ ?_⟩
    rw [eqv_of h1 h2]
    exact h.ret R rfl
  case NotEq =>
    obtain ⟨⟨h1, h2⟩, h⟩ := (show Ok X.K ct RB M H (needs (eqOk 64 (deref μ d) = true ∧ eqOk 64 (deref μ d') = true) (.ok (!eqD (deref μ d) (deref μ d')) μ)) B W from h).needs
    refine wo (op_neD hu) ⟨_, _, rx.deref R h1, ry.deref R h2, shaped_of h1, shaped_of h2, hq _ _ ?_⟩
    rw [eqv_of h1 h2]
    exact h.ret R rfl
  case Lt =>
    unfold cmpD copOf at h
    simp only at h
    split at h
    · cases rx; cases ry; exact wo op_lt ⟨_, _, rfl, rfl, hq _ _ (h.ret R rfl)⟩
    · cases rx; cases ry; exact wo op_lt_str ⟨_, _, rfl, rfl, hq _ _ (h.ret R rfl)⟩
    · exact h.elim
  case LtE =>
    unfold cmpD copOf at h
    simp only at h
    split at h
    · cases rx; cases ry; exact wo op_le ⟨_, _, rfl, rfl, hq _ _ (h.ret R rfl)⟩
    · cases rx; cases ry; exact wo op_le_str ⟨_, _, rfl, rfl, hq _ _ (h.ret R rfl)⟩
    · exact h.elim
  case Gt =>
    unfold cmpD copOf at h
    simp only at h
    split at h
    · cases rx; cases ry; exact wo op_gt ⟨_, _, rfl, rfl, hq _ _ (h.ret R rfl)⟩
    · cases rx; cases ry; exact wo op_gt_str ⟨_, _, rfl, rfl, hq _ _ (h.ret R rfl)⟩
    · exact h.elim
  case GtE =>
    unfold cmpD copOf at h
    simp only at h
    split at h
    · cases rx; cases ry; exact wo op_ge ⟨_, _, rfl, rfl, hq _ _ (h.ret R rfl)⟩
    · cases rx; cases ry; exact wo op_ge_str ⟨_, _, rfl, rfl, hq _ _ (h.ret R rfl)⟩
    · exact h.elim
  case Is =>
    unfold cmpD copOf at h
    simp only at h
    split at h
    · cases rx; cases ry; exact wo op_isN ⟨rfl, hq _ _ (by simpa using h.ret R rfl)⟩
    · rename_i hn
      cases ry
      refine wo op_isN ⟨rfl, hq _ _ ?_⟩
      have e : decide (x = V.non) = false := decide_eq_false (by rintro rfl; cases rx; exact hn rfl)
      rw [e]; exact h.ret R rfl
    · rename_i a b
      cases rx; cases ry
      refine wo op_isB' ⟨b, rfl, trivial, hq _ _ ?_⟩
      have z := h.ret R rfl
      by_cases e : a = b
      · simpa [e] using z
      · have e2 : (a == b) = false := beq_eq_false_iff_ne.mpr e
        rw [e2] at z
        simpa [e] using z
    · rename_i b hn
      cases ry
      refine wo op_isB' ⟨b, rfl, by cases rx <;> trivial, hq _ _ ?_⟩
      have e : decide (x = V.bl b) = false := decide_eq_false (by rintro rfl; cases rx; exact hn _ rfl)
      simp only [Bool.false_eq_true, if_false, e]
      exact h.ret R rfl
    · exact h.elim
  case IsNot =>
    unfold cmpD copOf at h
    simp only at h
    split at h
    · cases rx; cases ry; exact wo op_notN ⟨rfl, hq _ _ (by simpa using h.ret R rfl)⟩
    · rename_i hn
      cases ry
      refine wo op_notN ⟨rfl, hq _ _ ?_⟩
      have e : decide (x = V.non) = false := decide_eq_false (by rintro rfl; cases rx; exact hn rfl)
      rw [e]; exact h.ret R rfl
    · rename_i a b
      cases rx; cases ry
      refine wo op_isnB' ⟨b, rfl, trivial, hq _ _ ?_⟩
      have z := h.ret R rfl
      by_cases e : a = b
      · simpa [e] using z
      · have e2 : (a == b) = false := beq_eq_false_iff_ne.mpr e
        rw [e2] at z
        simpa [e] using z
    · rename_i b hn
      cases ry
      refine wo op_isnB' ⟨b, rfl, by cases rx <;> trivial, hq _ _ ?_⟩
      have e : decide (x = V.bl b) = false := decide_eq_false (by rintro rfl; cases rx; exact hn _ rfl)
      simp only [if_true, e, Bool.not_false]
      exact h.ret R rfl
    · exact h.elim
  case In =>
    unfold cmpD copOf at h
    simp only at h
    split at h
    · cases rx; cases ry; exact wo op_in_str ⟨_, _, rfl, rfl, hq _ _ (h.ret R rfl)⟩
    · split at h
      · rename_i l hl
        obtain ⟨⟨h1, h2⟩, h⟩ := h.needs
        obtain ⟨a, xs, rfl, hs, rs⟩ := seq_of R ry hl
        refine wo op_in_seq ⟨a, xs, rfl, hs, flat_of rx h1, flats_of rs h2, hq _ _ ?_⟩
        simp only [Bool.false_eq_true, if_false, inV_of rx h1 rs h2]
        exact h.ret R rfl
      · exact h.elim
  case NotIn =>
    unfold cmpD copOf at h
    simp only at h
    split at h
    · cases rx; cases ry; exact wo op_notIn_str ⟨_, _, rfl, rfl, hq _ _ (h.ret R rfl)⟩
    · split at h
      · rename_i l hl
        obtain ⟨⟨h1, h2⟩, h⟩ := h.needs
        obtain ⟨a, xs, rfl, hs, rs⟩ := seq_of R ry hl
        refine wo op_notIn_seq ⟨a, xs, rfl, hs, flat_of rx h1, flats_of rs h2, hq _ _ ?_⟩
        simp only [if_true, inV_of rx h1 rs h2]
        exact h.ret R rfl
      · exact h.elim
/-- truth -/
theorem tru_ok {B : Bool → Hp → Prop} {ν : Mu} (R : RelH K ct H μ M) (rx : Rep K H M x d) (h : Ok K ct RB M H (truD μ d μ) B W) : ∃ k, TruV K x H k ∧ truD μ d μ = .ok k μ ∧ B k H := by
  cases rx with
  | non => exact ⟨false, rfl, rfl, h.ret R rfl⟩
  | bl b => exact ⟨b, rfl, rfl, h.ret R rfl⟩
  | int i => exact ⟨i != 0, rfl, rfl, h.ret R rfl⟩
  | str s =>
    have h' := (show Ok K ct RB M H (needs (s.length ≤ 16777216) (.ok (s.length != 0) μ)) B W from h).needs
    refine ⟨s.length != 0, ⟨sl16 h'.1, ?_⟩, needs_pos h'.1, h'.2.ret R rfl⟩
    cases e : s.length with
    | zero => rfl
    | succ n =>
      have e1 : (n + 1 != 0) = true := by simp
      have e2 : (((n + 1 : Nat) : Int) != 0) = true := by simp; omega
      rw [e1, e2]
  | tup h1 r1 =>
    rename_i a xs ds
    refine ⟨!ds.isEmpty, .inr (.inl ⟨_, h1.sq, ?_⟩), rfl, h.ret R rfl⟩
    cases r1 <;> rfl
  | lst h1 r1 =>
    rename_i a xs ds
    refine ⟨!ds.isEmpty, .inl ⟨_, h1.sq, ?_⟩, rfl, h.ret R rfl⟩
    cases r1 <;> rfl
  | kl => exact (h : False).elim
  | ref ha =>
    unfold truD at h ⊢
    simp only at h ⊢
    split at h
    · rename_i l' hl
      obtain ⟨xs, h1, r1⟩ := R.lst hl ha
      refine ⟨!l'.isEmpty, .inl ⟨_, .inl (.inl h1), ?_⟩, rfl, h.ret R rfl⟩
      cases r1 <;> rfl
    · exact h.elim
end
end PyI
/-! A4: text.translate({37: None}); built-in calls, methods, subscripts. -/
namespace PyI.Tr
open PySem Builtin Builtin.Str L2
section
variable {prog : Program} {w : World} {A : Around} {E : Value → Shared → Prop} {s : Shared} {d : Addr} {c : Nat}
abbrev M37 (prog : Program) (w : World) (h : Heap) (d : Addr) : Prop := h.DictOf (mixKind prog w) d [(Sum.inl 37, Value.none)]
theorem m37_keeps {h h' : Heap} (m : M37 prog w h d) (k : ∀ b o, h.get? b = some o → h'.get? b = some o) : M37 prog w h' d := by
  obtain ⟨o, es, ep, ho, r⟩ := m
  exact ⟨o, es, ep, k _ _ ho, r⟩
theorem tl37 {Q : Mapped → Shared → Prop} (hh : A.handled = none) (hd : (d == sysModules) = false) (hm : M37 prog w s.heap d)
    (h1 : c = 37 → ∀ k, Q .drop { s with toks := k })
    (h2 : c ≠ 37 → ∀ h' k, (∀ b o, s.heap.get? b = some o → h'.get? b = some o) → Q .keep { s with heap := h', toks := k }) : wpAny (model prog w) A (tableLookup (.ref d) c) Q E s := by
  unfold tableLookup
  refine wpAny_bind (wpAny_attempt (wpAny_bind (wpAny_mkInt ?_)))
  by_cases hc : c = 37
  · refine wpAny_getItem_of (knd := mixKind prog w) (k := (Sum.inl (c : Int))) (v := Value.none) (mixKind_int ..) hm.mapOf (by subst hc; rfl) ?_
    exact wpAny_pure (h1 hc _)
  · refine wpAny_getItem_missing_of (knd := mixKind prog w) (k := (Sum.inl (c : Int))) (mixKind_int ..) hd hh hm.mapOf ?_ fun h' e hx => ?_
    · unfold valueAt
      rw [List.find?_cons, List.find?_nil]
      have : decide (((Sum.inl 37 : Key), Value.none).1 = Sum.inl (c : Int)) = false := decide_eq_false (fun z => hc (by have := Sum.inl.inj z; omega))
      rw [this]; rfl
    show wpAny _ _ (do let b ← isInstance (.ref e) (.type "LookupError"); _) _ _ _
    obtain ⟨ob, t, ho, hc', _⟩ := hx.there
    refine wpAny_bind (wpAny_isInstance (T := "KeyError") (b := true) ⟨ob, ho, hc'⟩ key_is_lookup ?_)
    show wpAny _ _ (if true = true then (do rule "str.translate.not-in-table"; pure Mapped.keep) else _) _ _ _
    rw [if_pos rfl]
    exact wpAny_bind (wpAny_rule (wpAny_pure (h2 hc h' _ hx.keeps)))
end
abbrev one37 (c : Nat) : Option Nat := if c = 37 then none else some c
theorem pieces37 : ∀ (l : List Nat) (acc : Array Nat), List.foldl (fun acc (p : Str) => acc ++ p.cps) acc (l.map fun c => (⟨#[c]⟩ : Str)) = acc ++ l.toArray
  | [], acc => by
    show acc = acc ++ #[]
    rw [Array.append_empty]
  | c :: l, acc => by
    rw [List.map_cons, List.foldl_cons, pieces37 l]
    apply Array.toList_inj.mp
    simp
/-- what stands while the signs are walked -/
def At37 (x : List Nat) (s : Shared) (rest : List Nat) (st : List Str × Nat × Bool × List (Nat × Option Nat) × Bool) (s' : Shared) : Prop :=
  ∃ (past : List Nat) (pieces : List Str) (known : List (Nat × Option Nat)) (n : Nat) (h' : Heap) (k : Nat), x = past ++ rest ∧ n ≤ past.length ∧ st = (pieces, n, true, known, false) ∧ pieces.reverse = (past.filter (· != 37)).map (fun c => (⟨#[c]⟩ : Str)) ∧
    (∀ c a, List.lookup c known = some a → a = one37 c) ∧ s' = { s with heap := h', toks := k } ∧ ∀ b o, s.heap.get? b = some o → h'.get? b = some o
theorem At37.keep {x : List Nat} {s : Shared} {rest past : List Nat} {n : Nat} {c : Nat} {pieces : List Str} {known : List (Nat × Option Nat)} {h' : Heap} {k : Nat} (hc : c ≠ 37) (h1 : x = past ++ c :: rest) (hn : n ≤ past.length)
    (h3 : pieces.reverse = (past.filter (· != 37)).map (fun c => (⟨#[c]⟩ : Str))) (h4 : ∀ c a, List.lookup c known = some a → a = one37 c) (h6 : ∀ b o, s.heap.get? b = some o → h'.get? b = some o) :
    At37 x s rest (⟨#[c]⟩ :: pieces, n + 1, true, known, false) { s with heap := h', toks := k } := by
  refine ⟨past ++ [c], ⟨#[c]⟩ :: pieces, known, n + 1, h', k, ?_, ?_, rfl, ?_, h4, rfl, h6⟩
  · rw [h1, List.append_assoc] <;> rfl
  · rw [List.length_append]; exact Nat.succ_le_succ hn
  · rw [List.reverse_cons, h3, List.filter_append, List.map_append]
    have : List.filter (fun x => x != 37) [c] = [c] := by simp [hc]
    rw [this]; rfl
theorem At37.drop {x : List Nat} {s : Shared} {rest past : List Nat} {n : Nat} {c : Nat} {pieces : List Str} {known : List (Nat × Option Nat)} {h' : Heap} {k : Nat} (hc : c = 37) (h1 : x = past ++ c :: rest) (hn : n ≤ past.length)
    (h3 : pieces.reverse = (past.filter (· != 37)).map (fun c => (⟨#[c]⟩ : Str))) (h4 : ∀ c a, List.lookup c known = some a → a = one37 c) (h6 : ∀ b o, s.heap.get? b = some o → h'.get? b = some o) :
    At37 x s rest (pieces, n, true, known, false) { s with heap := h', toks := k } := by
  refine ⟨past ++ [c], pieces, known, n, h', k, ?_, ?_, rfl, ?_, h4, rfl, h6⟩
  · rw [h1, List.append_assoc] <;> rfl
  · rw [List.length_append]; exact Nat.le_succ_of_le hn
  · rw [h3, List.filter_append]
    have : List.filter (fun x => x != 37) [c] = [] := by simp [hc]
    rw [this, List.append_nil]
theorem meets37 {prog : Program} {w : World} (x : List Nat) (t : Tok) (d : Addr) (hd : (d == sysModules) = false) (hz : x.length ≤ 1000000) (hf : x.toArray.all (fun y => decide (y < 128)) = true) : MeetsIn prog w («str.translate» ⟨[.str ⟨x.toArray⟩ t, .ref d], []⟩) (fun A R s =>
    A.handled = none ∧ M37 prog w s.heap d ∧ ∀ (v : Value) (h' : Heap) (k : Nat), (∀ b o, s.heap.get? b = some o → h'.get? b = some o) → (∃ t', v = .str ⟨(x.filter (· != 37)).toArray⟩ t') → R (.ok (.ret v)) { s with heap := h', toks := k }) := by
  refine .of_wp fun A R s h => ?_
  obtain ⟨hh, hm, h⟩ := h
  have hh1 : A.in1.handled = none := hh
  have hlen : (⟨x.toArray⟩ : Str).length = x.length := by show x.toArray.size = _; simp
  show wpAny _ _ (if ((⟨x.toArray⟩ : Str).length == 0) = true then (do rule "str.translate.empty"; ret (.str ⟨x.toArray⟩ t)) else (do
    let st ← forIn x.toArray (([], 0, x.toArray.all fun y => decide (y < 128), [], false) : List Str × Nat × Bool × List (Nat × Option Nat) × Bool) _
    _)) _ _ s
  by_cases h0 : ((⟨x.toArray⟩ : Str).length == 0) = true
  · rw [if_pos h0]
    have hx : x = [] := by
      rw [beq_iff_eq, hlen] at h0
      exact List.eq_nil_of_length_eq_zero h0
    subst hx
    exact wpAny_bind (wpAny_rule (wpAny_pure ⟨_, rfl, h _ s.heap s.toks (fun _ _ e => e) ⟨t, rfl⟩⟩))
  · rw [if_neg h0, hf]
    refine wpAny_bind (MeetsSeq2.wpAny_forIn_array _ (At37 x s) _ (fun c rest st s' hI => ?turn) (fun st s' hI => ?fin) x.toArray ([], 0, true, [], false) ?h0)
    case h0 =>
      refine ⟨[], [], [], 0, s.heap, s.toks, ?_, Nat.le_refl _, rfl, rfl, fun c a z => ?_, rfl, fun _ _ e => e⟩
      · rw [List.nil_append]
      · rw [List.lookup_nil] at z
        cases z
    case turn =>
      obtain ⟨past, pieces, known, n, h', k, e1, en, e2, e3, e4, e5, e6⟩ := hI
      subst e2
      subst e5
      have hpl : n ≤ 1000000 := by
        have q := congrArg List.length e1
        rw [List.length_append] at q
        omega
      have hm' : M37 prog w ({ s with heap := h', toks := k } : Shared).heap d := m37_keeps hm e6
      show wpAny _ _ (if tooLong n = true then _ else (if true = true then _ else _)) _ _ _
      rw [show tooLong n = false from PyProof.Rows.short24 (by omega), if_neg Bool.false_ne_true]
      rw [if_pos rfl]
      cases hl : List.lookup c known with
      | some a =>
        have ha := e4 c a hl
        by_cases hc : c = 37
        · have ha' : a = none := by rw [ha]; exact if_pos hc
          subst ha'
          refine wpAny_bind (wpAny_pure ?_)
          exact wpAny_pure (At37.drop hc e1 en e3 e4 e6)
        · have ha' : a = some c := by rw [ha]; exact if_neg hc
          subst ha'
          refine wpAny_bind (wpAny_pure ?_)
          exact wpAny_pure (At37.keep hc e1 en e3 e4 e6)
      | none =>
        have new : ∀ b, b = one37 c → ∀ c' a, List.lookup c' ((c, b) :: known) = some a → a = one37 c' := fun b hb c' a z => by
          rcases PySem.lookup_new z with ⟨q1, q2⟩ | q
          · rw [q2, hb, q1]
          · exact e4 c' a q
        refine wpAny_bind (tl37 hh1 hd hm' (fun hc k2 => ?_) (fun hc h2 k2 k3 => ?_))
        · refine wpAny_bind (wpAny_pure ?_)
          refine wpAny_pure ?_
          exact At37.drop (k := k2) (known := (c, none) :: known) hc e1 en e3 (new none (by rw [one37, if_pos hc])) e6
        · refine wpAny_bind (wpAny_pure ?_)
          refine wpAny_pure ?_
          exact At37.keep (k := k2) (known := (c, some c) :: known) hc e1 en e3 (new (some c) (by rw [one37, if_neg hc])) (fun b o z => k3 b o (e6 b o z))
    case fin =>
      obtain ⟨past, pieces, known, n, h', k, e1, en, e2, e3, e4, e5, e6⟩ := hI
      subst e2
      subst e5
      have ex : x = past := by rw [e1, List.append_nil]
      show wpAny _ _ (if tooLong n = true then _ else retStr { cps := List.foldl (fun acc (p : Str) => acc ++ p.cps) #[] pieces.reverse }) _ _ _
      rw [show tooLong n = false from PyProof.Rows.short24 (by rw [← ex] at en; omega), if_neg Bool.false_ne_true, e3, pieces37, ← ex]
      have ev : (⟨#[] ++ (x.filter (· != 37)).toArray⟩ : Str) = ⟨(x.filter (· != 37)).toArray⟩ := by
        rw [Array.empty_append]
      rw [ev]
      refine wpAny_bind (wpAny_mkStr (wpAny_pure ⟨_, rfl, h _ h' _ e6 ⟨_, rfl⟩⟩) ?_)
      show (x.filter (· != 37)).toArray.size ≤ sizeLine
      have hfl : (x.filter (· != 37)).length ≤ x.length := List.length_filter_le ..
      rw [sizeLine_eq]; simp; omega
end PyI.Tr
namespace PyI
open PySem L2
def rTr37 : V → List V → Hp → VK → Prop := fun x xs H Q => ∃ (z : Str) (d : Addr), x = .str z ∧ xs = [.ref d] ∧ H d = some (.dK [(.inl 37, .non)]) ∧ z.length ≤ 1000000 ∧ z.cps.all (· < 128) = true ∧ Q (.str (tr37S z)) H
theorem mt_tr37 {X : Cx} (hc : X.calm = true) : MtR X "str.translate" rTr37 := by
  intro pins s σ H x xs v us Q I rx rs h
  obtain ⟨a, d, rfl, rfl, hd, h3, hf, h⟩ := h
  obtain ⟨t, rfl⟩ := rx
  cases rs with
  | cons r1 rs =>
    cases rs
    cases r1
    obtain ⟨_, low, vs, kv, dd⟩ := dk_of I.hok hd
    have dd' : Tr.M37 X.prog X.w s.heap d := by
      cases kv with
      | cons p kv =>
        cases kv
        rename_i q
        obtain ⟨q1, q2⟩ := q
        obtain ⟨p1, p2⟩ := p
        cases p1
        cases (show q2 = Value.none from p2)
        exact dd
    obtain ⟨⟨l⟩⟩ := a
    refine call_meetsIn F.slot_str_translate (typeIs_str _ _ _) F.entry_str_translate (F.args_str_translate_2 _ _) (Tr.meets37 l t d low (by have h3' : (l.toArray).size ≤ 1000000 := h3; simpa using h3') hf) ⟨I.ok.hd hc, dd', ?_⟩
    intro v h' k hk ⟨t', e⟩
    subst e
    refine ⟨.str _, H, I.kept (t' := k) hk, ⟨t', rfl⟩, ?_⟩
    have e : tr37S ⟨l.toArray⟩ = ⟨(l.filter (· != 37)).toArray⟩ := by unfold tr37S; rfl
    rw [e] at h
    exact h
end PyI
/-! A5: built-in calls, methods, subscripts by values. -/
namespace PyI
open PySem L2
section
variable {X : Cx} {ct : CTab} {K : PySem.W.Frag} {H : Hp} {M : AM} {μ : Mu} {x y z v : V} {d d' : D} {xs : List V} {ds : List D} {Q : VK} {W : XK}

def tyN : Ty → String
  | .str => "str" | .int => "int" | .bool => "bool" | .tuple => "tuple" | .list => "list"
theorem tyx_t {a : Addr} {xs : List V} (h : SqT K H a xs) : TyX K H (.ref a) (.type "tuple") := by
  rcases h with (h | ⟨o, h⟩) | ⟨o, its, n, h1, h2, _⟩
  · exact .base (.tup h)
  · exact .fTuple h
  · exact .kTuple h1 h2
theorem tyx_l {a : Addr} {xs : List V} (h : SqL K H a xs) : TyX K H (.ref a) (.type "list") := by
  rcases h with (h | ⟨o, h⟩) | ⟨o, its, n, h1, h2, _⟩
  · exact .base (.lst h)
  · exact .base (.frz h)
  · exact .kList h1 h2
theorem isi_ok {t : Ty} (R : RelH X.K ct H μ M) (rx : Rep X.K H M x d) (h : Ok X.K ct (RD X.K) M H (isiD d t μ) Q W) : wC X (.builtin "isinstance") [x, .ty (tyN t)] H Q := by
  have go : ∀ {tn : String} {b : Bool}, TyX X.K H x (.type tn) → kitB tn (tyN t) = some b → Q (.bl b) H → wC X (.builtin "isinstance") [x, .ty (tyN t)] H Q :=
    fun ty k q => wc call_isi ⟨x, _, _, _, _, rfl, .ty _, ty, kit_ty k, q⟩
  cases rx with
  | non => exact go (.base .non) (by cases t <;> decide) (h.ret R (.bl _))
  | bl b => exact go (.base (.bl b)) (by cases t <;> decide) (h.ret R (.bl _))
  | int i => exact go (.base (.int i)) (by cases t <;> decide) (h.ret R (.bl _))
  | str s => exact go (.base (.str s)) (by cases t <;> decide) (h.ret R (.bl _))
  | tup h1 r1 => exact go (tyx_t h1.sq) (by cases t <;> decide) (h.ret R (.bl _))
  | lst h1 r1 => exact go (tyx_l h1.sq) (by cases t <;> decide) (h.ret R (.bl _))
  | kl => exact (h : False).elim
  | ref ha =>
    unfold isiD at h
    simp only at h
    split at h
    · rename_i l hl
      obtain ⟨xs, h1, r1⟩ := R.lst hl ha
      exact go (.base (.lst h1)) (by cases t <;> decide) (h.ret R (.bl _))
    · exact h.elim

theorem reps1 (r : Reps K H M xs [d]) : ∃ x, xs = [x] ∧ Rep K H M x d := Reps.one_inv r
theorem reps2 (r : Reps K H M xs [d, d']) : ∃ x y, xs = [x, y] ∧ Rep K H M x d ∧ Rep K H M y d' := by
  cases r with
  | cons h r => obtain ⟨y, rfl, h'⟩ := reps1 r; exact ⟨_, _, rfl, h, h'⟩
theorem reps0 (r : Reps K H M xs []) : xs = [] := by cases r; rfl
theorem seqL_of (R : RelH K ct H μ M) (r : Rep K H M x d) {l : List D} (h : seqD μ d = some l) (hn : ∀ t, d = .tup t → False) : ∃ a xs, x = .ref a ∧ SqL K H a xs ∧ Reps K H M xs l := by
  cases r with
  | tup h1 r1 => exact (hn _ rfl).elim
  | lst h1 r1 => cases h; exact ⟨_, _, rfl, h1.sq, r1⟩
  | kl h1 r1 => cases h; exact ⟨_, _, rfl, h1.sq, r1⟩
  | ref ha =>
    unfold seqD at h
    simp only at h
    split at h
    · rename_i l' hl
      cases h
      obtain ⟨xs, h1, r1⟩ := R.lst hl ha
      exact ⟨_, _, rfl, .inl (.inl h1), r1⟩
    · cases h
  | non => cases h
  | bl => cases h
  | int => cases h
  | str => cases h
def bifV : Bif → Value
  | .len => .builtin "len" | .int => .type "int" | .str => .type "str" | .tuple => .type "tuple" | .list => .type "list"
  | .sorted => .builtin "sorted" | .min => .builtin "min" | .max => .builtin "max" | .sum => .builtin "sum" | .any => .builtin "any" | .all => .builtin "all"
  | .abs => .builtin "abs" | .ord => .builtin "ord" | .bool => .type "bool"
theorem ints_of : ∀ {xs : List V} {ds : List D} {ys : List Int}, Reps K H M xs ds → intsOf ds = some ys → xs = ys.map V.int
  | _, _, _, .nil, e => by cases e; rfl
  | _, _, ys, .cons h r, e => by
    cases h <;> unfold intsOf at e <;> simp only [Option.map_eq_some_iff, reduceCtorEq] at e
    obtain ⟨zs, hz, rfl⟩ := e
    rw [ints_of r hz]; rfl
theorem bools_of : ∀ {xs : List V} {ds : List D} {ys : List Bool}, Reps K H M xs ds → boolsOf ds = some ys → xs = ys.map V.bl
  | _, _, _, .nil, e => by cases e; rfl
  | _, _, ys, .cons h r, e => by
    cases h <;> unfold boolsOf at e <;> simp only [Option.map_eq_some_iff, reduceCtorEq] at e
    obtain ⟨zs, hz, rfl⟩ := e
    rw [bools_of r hz]; rfl
theorem reps_ints : ∀ (ys : List Int), Reps K H M (ys.map V.int) (ys.map D.int)
  | [] => .nil
  | y :: ys => .cons (.int y) (reps_ints ys)
theorem maxL_mem : ∀ {l : List Int}, l ≠ [] → maxL l ∈ l
  | [], h => absurd rfl h
  | [a], _ => by simp [maxL]
  | a :: b :: r, _ => by
    have := maxL_mem (l := b :: r) (by simp)
    rw [maxL]
    split
    · exact List.mem_cons_of_mem _ this
    · exact List.mem_cons_self ..
theorem maxL_ge : ∀ {l : List Int}, ∀ y ∈ l, y ≤ maxL l
  | [a], y, h => by rw [List.mem_singleton.mp h]; simp [maxL]
  | a :: b :: r, y, h => by
    have ih := fun y h => maxL_ge (l := b :: r) y h
    rw [maxL]
    rcases List.mem_cons.mp h with rfl | h
    · split <;> omega
    · have := ih y h
      split <;> omega
theorem minL_mem : ∀ {l : List Int}, l ≠ [] → minL l ∈ l
  | [], h => absurd rfl h
  | [a], _ => by simp [minL]
  | a :: b :: r, _ => by
    have := minL_mem (l := b :: r) (by simp)
    rw [minL]
    split
    · exact List.mem_cons_of_mem _ this
    · exact List.mem_cons_self ..
theorem minL_le : ∀ {l : List Int}, ∀ y ∈ l, minL l ≤ y
  | [a], y, h => by rw [List.mem_singleton.mp h]; simp [minL]
  | a :: b :: r, y, h => by
    have ih := fun y h => minL_le (l := b :: r) y h
    rw [minL]
    rcases List.mem_cons.mp h with rfl | h
    · split <;> omega
    · have := ih y h
      split <;> omega
theorem insI_perm (a : Int) : ∀ l : List Int, (insI a l).Perm (a :: l)
  | [] => .refl _
  | b :: r => by
    rw [insI]
    split
    · exact .refl _
    · exact ((insI_perm a r).cons b).trans (.swap a b r)
theorem sortI_perm : ∀ l : List Int, (sortI l).Perm l
  | [] => .refl _
  | a :: r => (insI_perm a _).trans ((sortI_perm r).cons a)
theorem insI_up (a : Int) : ∀ {l : List Int}, l.Pairwise (· ≤ ·) → (insI a l).Pairwise (· ≤ ·)
  | [], _ => by simp [insI]
  | b :: r, h => by
    rw [insI]
    rw [List.pairwise_cons] at h
    split
    · rename_i e
      rw [List.pairwise_cons]
      refine ⟨fun y hy => ?_, List.pairwise_cons.mpr h⟩
      rcases List.mem_cons.mp hy with rfl | hy
      · exact e
      · exact Int.le_trans e (h.1 y hy)
    · rename_i e
      rw [List.pairwise_cons]
      refine ⟨fun y hy => ?_, insI_up a h.2⟩
      rcases List.mem_cons.mp ((insI_perm a r).mem_iff.mp hy) with rfl | hy
      · omega
      · exact h.1 y hy
theorem sortI_up : ∀ l : List Int, (sortI l).Pairwise (· ≤ ·)
  | [] => .nil
  | a :: r => insI_up a (sortI_up r)
theorem bif_ok {b : Bif} (hc : X.calm = true) (R : RelH X.K ct H μ M) (r : Reps X.K H M xs ds) (h : Ok X.K ct (RD X.K) M H (bifD b ds μ) Q W) : wC X (bifV b) xs H Q := by
  unfold bifD at h
  split at h
  case h_1 s => obtain ⟨x, rfl, rx⟩ := reps1 r; cases rx; exact wc call_len_str ⟨s, rfl, sl16 h.needs.1, h.needs.2.ret R (.int _)⟩
  case h_2 =>
    obtain ⟨x, rfl, rx⟩ := reps1 r
    split at h
    · rename_i l hl
      obtain ⟨a, xs, rfl, hs, rs⟩ := seq_of R rx hl
      refine wc call_len_seq ⟨a, xs, rfl, hs, ?_⟩
      rw [rs.length]; exact h.ret R (.int _)
    · exact h.elim
  case h_3 => obtain ⟨x, rfl, rx⟩ := reps1 r; cases rx; exact wc call_int1 (.inl ⟨_, rfl, h.ret R (.int _)⟩)
  case h_4 => obtain ⟨x, rfl, rx⟩ := reps1 r; cases rx; exact wc call_int1 (.inr ⟨_, rfl, h.ret R (.int _)⟩)
  case h_5 =>
    obtain ⟨x, rfl, rx⟩ := reps1 r; cases rx
    split at h
    · rename_i n hn
      exact wc call_int_str ⟨_, n, rfl, hn, h.needs.1, h.needs.2.ret R (.int _)⟩
    · exact h.elim
  case h_6 => obtain ⟨x, rfl, rx⟩ := reps1 r; cases rx; exact wc call_str_int ⟨_, rfl, h.needs.1, h.needs.2.ret R (.str _)⟩
  case h_7 => obtain ⟨x, rfl, rx⟩ := reps1 r; cases rx; exact wc call_abs ⟨_, rfl, h.ret R (.int _)⟩
  case h_8 => obtain ⟨x, y, rfl, rx, ry⟩ := reps2 r; cases rx; cases ry; exact wc (call_max2 hc) ⟨_, _, rfl, h.ret R (.int _)⟩
  case h_9 => obtain ⟨x, y, rfl, rx, ry⟩ := reps2 r; cases rx; cases ry; exact wc (call_min2 hc) ⟨_, _, rfl, h.ret R (.int _)⟩
  case h_10 =>
    obtain ⟨x, rfl, rx⟩ := reps1 r
    cases rx with
    | tup h1 r1 => exact wc call_tuple_of ⟨_, _, rfl, .inr ⟨h1.sq, h.ret R (.tup h1 r1)⟩⟩
  case h_11 hn =>
    obtain ⟨x, rfl, rx⟩ := reps1 r
    split at h
    · rename_i l hl
      obtain ⟨a, xs, rfl, hs, rs⟩ := seqL_of R rx hl hn
      exact wc call_tuple_of ⟨a, xs, rfl, .inl ⟨hs, fun p hp => h.newT R rs hp⟩⟩
    · exact h.elim
  case h_12 =>
    obtain ⟨x, rfl, rx⟩ := reps1 r
    split at h
    · rename_i l hl
      obtain ⟨a, xs, rfl, hs, rs⟩ := seq_of R rx hl
      exact wc call_list_of ⟨a, xs, rfl, hs, fun p hp => h.newL R rs hp⟩
    · exact h.elim
  case h_13 s => obtain ⟨x, rfl, rx⟩ := reps1 r; cases rx; exact wc call_ord ⟨s, rfl, h.needs.1, h.needs.2.ret R (.int _)⟩
  case h_14 =>
    obtain ⟨x, rfl, rx⟩ := reps1 r
    split at h
    · rename_i l hl
      obtain ⟨zs, e1, e2⟩ := Option.bind_eq_some_iff.mp hl
      obtain ⟨a, xs, rfl, hs, rs⟩ := lst_of R rx e1
      exact wc (cr_sum hc) ⟨a, l, rfl, .inl (by rw [← ints_of rs e2]; exact hs), h.ret R (.int _)⟩
    · exact h.elim
  case h_15 =>
    obtain ⟨x, rfl, rx⟩ := reps1 r
    split at h
    · rename_i l hl
      obtain ⟨zs, e1, e2⟩ := Option.bind_eq_some_iff.mp hl
      obtain ⟨a, xs, rfl, hs, rs⟩ := lst_of R rx e1
      exact wc (cr_any hc) ⟨a, l, rfl, .inl (by rw [← bools_of rs e2]; exact hs), h.ret R (.bl _)⟩
    · exact h.elim
  case h_16 =>
    obtain ⟨x, rfl, rx⟩ := reps1 r
    split at h
    · rename_i l hl
      obtain ⟨zs, e1, e2⟩ := Option.bind_eq_some_iff.mp hl
      obtain ⟨a, xs, rfl, hs, rs⟩ := lst_of R rx e1
      exact wc (cr_all hc) ⟨a, l, rfl, .inl (by rw [← bools_of rs e2]; exact hs), h.ret R (.bl _)⟩
    · exact h.elim
  case h_17 =>
    obtain ⟨x, rfl, rx⟩ := reps1 r
    split at h
    · rename_i l hl
      obtain ⟨zs, e1, e2⟩ := Option.bind_eq_some_iff.mp hl
      obtain ⟨a, xs, rfl, hs, rs⟩ := lst_of R rx e1
      have hn : l ≠ [] := List.length_pos_iff.mp h.needs.1
      refine wc (cr_max hc) ⟨a, l, rfl, .inl (by rw [← ints_of rs e2]; exact hs), h.needs.1, fun m h1 h2 => ?_⟩
      have e : m = maxL l := Int.le_antisymm (maxL_ge m h1) (h2 _ (maxL_mem hn))
      rw [e]
      exact h.needs.2.ret R (.int _)
    · exact h.elim
  case h_18 =>
    obtain ⟨x, rfl, rx⟩ := reps1 r
    split at h
    · rename_i l hl
      obtain ⟨zs, e1, e2⟩ := Option.bind_eq_some_iff.mp hl
      obtain ⟨a, xs, rfl, hs, rs⟩ := lst_of R rx e1
      have hn : l ≠ [] := List.length_pos_iff.mp h.needs.1
      refine wc (cr_min hc) ⟨a, l, rfl, .inl (by rw [← ints_of rs e2]; exact hs), h.needs.1, fun m h1 h2 => ?_⟩
      have e : m = minL l := Int.le_antisymm (h2 _ (minL_mem hn)) (minL_le m h1)
      rw [e]
      exact h.needs.2.ret R (.int _)
    · exact h.elim
  case h_19 =>
    obtain ⟨x, rfl, rx⟩ := reps1 r
    split at h
    · rename_i l hl
      obtain ⟨zs, e1, e2⟩ := Option.bind_eq_some_iff.mp hl
      obtain ⟨a, xs, rfl, hs, rs⟩ := lst_of R rx e1
      refine wc cr_sortedI ⟨a, l, rfl, .inl (by rw [← ints_of rs e2]; exact hs), fun ns' p h1 h2 hp => ?_⟩
      have e : ns' = sortI l := List.Perm.eq_of_pairwise (fun a b _ _ h1 h2 => Int.le_antisymm h1 h2) h2 (sortI_up l) (h1.trans (sortI_perm l).symm)
      rw [e]
      exact h.newL R (reps_ints _) hp
    · exact h.elim
  case h_20 => exact h.elim

/-! ### methods -/
def metI : Met → String
  | .append => "list.append" | .join => "str.join" | .find => "str.find" | .isascii => "str.isascii" | .isprintable => "str.isprintable" | .split => "str.split"
  | .endswith => "str.endswith" | .startswith => "str.startswith" | .extend => "list.extend" | .pop => "list.pop" | .index => "str.index" | .isdigit => "str.isdigit" | .isalpha => "str.isalpha" | .islower => "str.islower"
def metT : Met → String
  | .append => "list" | .extend => "list" | .pop => "list"
  | _ => "str"
theorem strs_of : ∀ {xs : List V} {ds : List D} {ys : List Str}, Reps K H M xs ds → strsOf ds = some ys → xs = ys.map V.str
  | _, _, _, .nil, e => by cases e; rfl
  | _, _, ys, .cons h r, e => by
    cases h <;> unfold strsOf at e <;> simp only [Option.map_eq_some_iff, reduceCtorEq] at e
    obtain ⟨zs, hz, rfl⟩ := e
    rw [strs_of r hz]; rfl
theorem reps_strs : ∀ (ys : List Str), Reps K H M (ys.map V.str) (ys.map D.str)
  | [] => .nil
  | y :: ys => .cons (.str y) (reps_strs ys)
theorem met_ty {m : Met} {o : D} (R : RelH K ct H μ M) (rx : Rep K H M x o) (h : tyD m o μ = true) : tyV K (metT m) x H := by
  unfold tyD at h
  split at h
  case h_1 =>
    cases rx with
    | ref ha =>
      split at h
      · rename_i l hl
        obtain ⟨xs, h1, r1⟩ := R.lst hl ha
        exact .inl ⟨rfl, xs, .inl (.inl h1)⟩
      · cases h
  case h_5 => cases rx; unfold metT; split <;> first | rfl | (exfalso; simp_all; done) | trace_state
  all_goals cases h
theorem met_ok {m : Met} {o : D} (R : RelH X.K ct H μ M) (rx : Rep X.K H M x o) (r : Reps X.K H M xs ds) (h : Ok X.K ct (RD X.K) M H (metD m o ds μ) Q W) : wM X (metI m) x xs H Q := by
  unfold metD at h
  split at h
  case h_1 n d =>
    cases rx with
    | ref ha =>
      obtain ⟨y, rfl, ry⟩ := reps1 r
      split at h
      · rename_i l hl
        obtain ⟨zs, h1, r1⟩ := R.lst hl ha
        obtain ⟨hz, h⟩ := h.needs
        have em : Evo M H M (upd H _ (.lst (zs ++ [y]))) := Evo.mut (List.mem_of_getElem? ha)
        refine wm mt_append ⟨_, zs, y, rfl, rfl, h1, sl16' (by rw [r1.length]; exact hz), ?_⟩
        exact h _ _ M em (R.mut ha ⟨zs ++ [y], upd_same, (r1.evo em).append (Reps.one (ry.evo em))⟩) .non
      · exact h.elim
  case h_2 a d =>
    cases rx
    obtain ⟨y, rfl, ry⟩ := reps1 r
    split at h
    · rename_i ys hy
      obtain ⟨hz, h⟩ := h.needs
      obtain ⟨l, hl, hs⟩ := Option.bind_eq_some_iff.mp hy
      obtain ⟨p, xs, rfl, hq, rs⟩ := seq_of R ry hl
      have e := strs_of rs hs
      subst e
      exact wm mt_join ⟨_, p, ys, rfl, rfl, hq, hz, h.ret R (.str _)⟩
    · exact h.elim
  case h_3 => cases rx; obtain ⟨y, z, rfl, ry, rz⟩ := reps2 r; cases ry; cases rz; exact wm mt_find3 ⟨_, _, _, rfl, rfl, h.ret R (.int _)⟩
  case h_4 => cases rx; obtain ⟨y, rfl, ry⟩ := reps1 r; cases ry; exact wm mt_find ⟨_, _, rfl, rfl, h.ret R (.int _)⟩
  case h_5 => cases rx; cases reps0 r; exact wm mt_isascii ⟨_, rfl, rfl, trivial, h.ret R (.bl _)⟩
  case h_6 => cases rx; cases reps0 r; exact wm mt_isprintable ⟨_, rfl, rfl, trivial, h.ret R (.bl _)⟩
  case h_7 => cases rx; cases reps0 r; exact wm mt_isdigit ⟨_, rfl, rfl, trivial, h.ret R (.bl _)⟩
  case h_8 => cases rx; cases reps0 r; exact wm mt_isalpha ⟨_, rfl, rfl, trivial, h.ret R (.bl _)⟩
  case h_9 => cases rx; cases reps0 r; exact wm mt_islower ⟨_, rfl, rfl, trivial, h.ret R (.bl _)⟩
  case h_10 => cases rx; obtain ⟨y, rfl, ry⟩ := reps1 r; cases ry; exact wm mt_startswith ⟨_, _, rfl, rfl, h.ret R (.bl _)⟩
  case h_11 => cases rx; obtain ⟨y, rfl, ry⟩ := reps1 r; cases ry; exact wm mt_endswith ⟨_, _, rfl, rfl, h.ret R (.bl _)⟩
  case h_12 =>
    cases rx; obtain ⟨y, rfl, ry⟩ := reps1 r; cases ry
    obtain ⟨hz, h⟩ := h.needs
    refine wm mt_split ⟨_, _, rfl, rfl, beq_eq_false_iff_ne.mpr hz.1, sl16 hz.2, fun p hp => ?_⟩
    exact h.newL R (reps_strs _) hp
  case h_13 => exact h.elim

/-! ### subscripts -/
theorem idx_ok {i : D} (R : RelH X.K ct H μ M) (rx : Rep X.K H M x d) (ry : Rep X.K H M y i) (h : Ok X.K ct (RD X.K) M H (idxD d i μ) Q W) : rIx X.K x y H Q := by
  unfold idxD at h
  split at h
  case h_1 z k =>
    cases rx; cases ry
    split at h
    · rename_i c hc
      exact .inr (.inr ⟨_, _, c, rfl, rfl, sl16 h.needs.1, hc, h.needs.2.ret R (.str _)⟩)
    · exact h.elim
  case h_2 k hn =>
    cases ry
    split at h
    · rename_i l hl
      obtain ⟨a, xs, rfl, hs, rs⟩ := seq_of R rx hl
      split at h
      · rename_i e he
        have : ∃ v, atI xs k = some v ∧ Rep X.K H M v e := by
          unfold atI at he ⊢
          obtain ⟨j, hj, hd⟩ := Option.bind_eq_some_iff.mp he
          obtain ⟨v, hv, rv⟩ := rs.get hd
          rw [rs.length]
          exact ⟨v, Option.bind_eq_some_iff.mpr ⟨j, hj, hv⟩, rv⟩
        obtain ⟨v, hv, rv⟩ := this
        rcases hs with hs | hs
        · exact .inl ⟨a, xs, _, v, rfl, rfl, hs, hv, h.ret R rv⟩
        · exact .inr (.inl ⟨a, xs, _, v, rfl, rfl, hs, hv, h.ret R rv⟩)
      · exact h.elim
    · exact h.elim
  case h_3 => exact h.elim
abbrev rSl (K : PySem.W.Frag) : V → Option Int → Option Int → Hp → VK → Prop := fun x lo hi H Q => (rSlS x lo hi H Q ∨ rSlL K x lo hi H Q) ∨ rSlT K x lo hi H Q
theorem sl_any : SlR X (rSl X.K) := (sl_str.or sl_list).or sl_tup
theorem cut_reps {lo hi : Option Int} {l : List D} (r : Reps K H M xs l) : Reps K H M (cutV xs lo hi) (cutD l lo hi) := by
  unfold cutV cutD
  rw [r.length]
  exact (r.dropL _).takeL _
theorem slc_ok {lo hi : Option Int} (R : RelH X.K ct H μ M) (rx : Rep X.K H M x d) (h : Ok X.K ct (RD X.K) M H (slcD d lo hi μ) Q W) : rSl X.K x lo hi H Q := by
  cases rx with
  | str z =>
    obtain ⟨hz, h⟩ := (show Ok X.K ct (RD X.K) M H (needs (z.length ≤ 16777216) (.ok (.str (cutS z lo hi)) μ)) Q W from h).needs
    exact .inl (.inl ⟨z, rfl, sl16 hz, h.ret R (.str _)⟩)
  | lst h1 r1 => exact .inl (.inr ⟨_, _, rfl, h1.sq, fun p hp => Ok.newL (μ := μ) h R (cut_reps r1) hp⟩)
  | tup h1 r1 =>
    rename_i l
    obtain ⟨hz, h⟩ := (show Ok X.K ct (RD X.K) M H (needs (¬ (HT.sIx l.length 0 lo = 0 ∧ HT.sIx l.length l.length hi = l.length)) (.ok (.tup (cutD l lo hi)) μ)) Q W from h).needs
    exact .inr ⟨_, _, rfl, h1.sq, by rw [r1.length]; exact hz, fun p hp => h.newT R (cut_reps r1) hp⟩
  | ref ha =>
    unfold slcD at h
    simp only at h
    split at h
    · rename_i l hl
      obtain ⟨xs, h1, r1⟩ := R.lst hl ha
      exact .inl (.inr ⟨_, _, rfl, .inl (.inl h1), fun p hp => h.newL R (cut_reps r1) hp⟩)
    · exact h.elim
  | kl => exact (h : False).elim
  | non => exact h.elim
  | bl => exact h.elim
  | int => exact h.elim
end
end PyI
/-! A6: from the syntax to the resolved syntax. -/
namespace PyI
open PySem L2

structure RC where
  N : List Str
  tb : Tb
def ixOf {α : Type} [DecidableEq α] (x : α) : List α → Option Nat
  | [] => none
  | y :: ys => if x = y then some 0 else (ixOf x ys).map (· + 1)
theorem ixOf_get {α : Type} [DecidableEq α] {x : α} : ∀ {l : List α} {i : Nat}, ixOf x l = some i → l[i]? = some x
  | [], _, h => by cases h
  | y :: ys, i, h => by
    unfold ixOf at h
    by_cases e : x = y
    · rw [if_pos e] at h; cases h; subst e; rfl
    · rw [if_neg e] at h
      obtain ⟨j, hj, rfl⟩ := Option.map_eq_some_iff.mp h
      simpa using ixOf_get hj
/-- a def of the table: its number and how many arguments it takes -/
def fnOf (x : Str) : List (Str × Nat) → Option (Nat × Nat)
  | [] => none
  | (y, n) :: ys => if x = y then some (0, n) else (fnOf x ys).map fun p => (p.1 + 1, p.2)
theorem fnOf_get {x : Str} : ∀ {l : List (Str × Nat)} {i n : Nat}, fnOf x l = some (i, n) → l[i]? = some (x, n)
  | [], _, _, h => by cases h
  | (y, k) :: ys, i, n, h => by
    unfold fnOf at h
    by_cases e : x = y
    · rw [if_pos e] at h; cases h; subst e; rfl
    · rw [if_neg e] at h
      obtain ⟨⟨j, m⟩, hj, q⟩ := Option.map_eq_some_iff.mp h
      cases q
      simpa using fnOf_get hj
def okName (x : Str) : Bool := !(x == ("__debug__" : Str)) && !(x == ("__classdict__" : Str)) && !(x == ("__name__" : Str))
def visB (sc : Scope) (x : Str) : Bool := match sc.names.lookup x with
  | some .local => true
  | some .cell => true
  | some .free => true
  | _ => false
def glB (sc : Scope) (x : Str) : Bool := match sc.names.lookup x with
  | some .globalImplicit => true
  | _ => false
def star : Expr → Bool
  | .Starred _ _ => true
  | _ => false
def isSlc : Expr → Bool
  | .Slice _ _ none _ => true
  | _ => false
def isSet : Expr → Bool
  | .Set _ _ _ => true
  | _ => false
/-- isTrue reads it by its value's truth -/
def plainT : Expr → Bool
  | .UnaryOp .Not _ _ => false
  | .BoolOp _ _ _ => false
  | .IfExp _ _ _ _ => false
  | .Compare _ _ _ _ => false
  | _ => true
def plainO : Expr → Bool
  | .Call (.Name id _) [] [] _ => id != ("super" : Str)
  | _ => true
def bopOf : Operator → Option Bop
  | .Add => some .add | .Sub => some .sub | .Mult => some .mul | .FloorDiv => some .fdiv | .Mod => some .mod | .Pow => some .pow
  | .LShift => some .shl | .RShift => some .shr | .BitAnd => some .band | .BitOr => some .bor | .BitXor => some .bxor | _ => none
def bifOf (x : Str) : Option Bif :=
  if x = "len" then some .len else if x = "int" then some .int else if x = "str" then some .str else if x = "tuple" then some .tuple else if x = "list" then some .list else
  if x = "abs" then some .abs else if x = "max" then some .max else if x = "min" then some .min else if x = "ord" then some .ord else
  if x = "sum" then some .sum else if x = "any" then some .any else if x = "all" then some .all else if x = "sorted" then some .sorted else none
def tyOf (x : Str) : Option Ty :=
  if x = "str" then some .str else if x = "int" then some .int else if x = "bool" then some .bool else if x = "tuple" then some .tuple else if x = "list" then some .list else none
def metOf (x : Str) : Option Met :=
  if x = "append" then some .append else if x = "join" then some .join else if x = "find" then some .find else if x = "isascii" then some .isascii else if x = "isprintable" then some .isprintable else
  if x = "split" then some .split else if x = "isdigit" then some .isdigit else if x = "isalpha" then some .isalpha else if x = "islower" then some .islower else
  if x = "startswith" then some .startswith else if x = "endswith" then some .endswith else none
def guardO {α : Type} (b : Bool) (o : Option α) : Option α := if b then o else none
theorem guardO_some {α : Type} {b : Bool} {o : Option α} {a : α} (h : guardO b o = some a) : b = true ∧ o = some a := by
  unfold guardO at h
  cases b with
  | true => exact ⟨rfl, h⟩
  | false => cases h
def ownOf (N : List Str) (sc : Scope) : List (Str × Nat) := sc.names.filterMap fun p => match p.2 with
  | .local => (ixOf p.1 N).map fun i => (p.1, i)
  | .cell => (ixOf p.1 N).map fun i => (p.1, i)
  | _ => none
/-- targets: names, tuples of names -/
def resNames (N : List Str) (loc : List Str) : List Expr → Option (List Nat)
  | [] => some []
  | .Name x _ :: es => guardO (decide (x ∈ loc)) ((ixOf x N).bind fun i => (resNames N loc es).map (i :: ·))
  | _ => none
def resTg (N : List Str) (loc : List Str) : Expr → Option Tg
  | .Name x _ => guardO (decide (x ∈ loc)) ((ixOf x N).map Tg.nm)
  | .Tuple es _ _ => (resNames N loc es).map Tg.tp
  | _ => none
def slotsOf : Tg → List Nat
  | .nm i => [i]
  | .tp l => l
def litTab : List (Option Expr) → List Expr → Bool
  | [some (.Constant (.int 37) _ _)], [.Constant .none _ _] => true
  | _, _ => false
def isiArgs : List Expr → Option (Expr × Str)
  | [a, .Name t _] => some (a, t)
  | _ => none
theorem isiArgs_eq {args : List Expr} {q : Expr × Str} (h : isiArgs args = some q) : ∃ p, args = [q.1, .Name q.2 p] := by
  unfold isiArgs at h
  split at h
  · cases h; exact ⟨_, rfl⟩
  · cases h
def trArgs : List Expr → Option (List (Option Expr) × List Expr)
  | [.Dict ks vs _] => some (ks, vs)
  | _ => none
theorem trArgs_eq {args : List Expr} {q : List (Option Expr) × List Expr} (h : trArgs args = some q) : ∃ p, args = [.Dict q.1 q.2 p] := by
  unfold trArgs at h
  split at h
  · cases h; exact ⟨_, rfl⟩
  · cases h
/-- a dict of the module -/
def dicOf (C : RC) (sc : Scope) : Expr → Option Nat
  | .Name x _ => guardO (okName x && glB sc x) (ixOf x C.tb.dics)
  | _ => none
theorem dicOf_eq {C : RC} {sc : Scope} {e : Expr} {g : Nat} (h : dicOf C sc e = some g) : ∃ x p, e = .Name x p ∧ okName x = true ∧ glB sc x = true ∧ C.tb.dics[g]? = some x := by
  unfold dicOf at h
  split at h
  · obtain ⟨h1, h⟩ := guardO_some h
    simp only [Bool.and_eq_true] at h1
    exact ⟨_, _, rfl, h1.1, h1.2, ixOf_get h⟩
  · cases h
def inOp : CmpOp → Option Bool
  | .In => some false
  | .NotIn => some true
  | _ => none
theorem inOp_eq {op : CmpOp} {b : Bool} (h : inOp op = some b) : op = if b then .NotIn else .In := by
  cases op <;> simp [inOp] at h <;> subst h <;> rfl
mutual
def resE : Nat → RC → Scope → Expr → Option E
  | 0, _, _, _ => none
  | n + 1, C, sc, e => match e with
    | .Constant (.int i) _ _ => some (.cst (.int i))
    | .Constant (.bool b) _ _ => some (.cst (.bl b))
    | .Constant .none _ _ => some (.cst .non)
    | .Constant (.str s) _ _ => some (.cst (.str s))
    | .Name x _ => guardO (okName x) (if visB sc x then (ixOf x C.N).map E.var else guardO (glB sc x) ((ixOf x C.tb.cons).map E.glob))
    | .BinOp a op b _ => (bopOf op).bind fun o => (resE n C sc a).bind fun A => (resE n C sc b).map fun B => .bin o A B
    | .UnaryOp .USub a _ => (resE n C sc a).map .neg
    | .UnaryOp .Invert a _ => (resE n C sc a).map .inv
    | .UnaryOp .Not a _ => (resE n C sc a).map fun A => .notv (.val A)
    | .BoolOp .And vs _ => resAnd n C sc vs
    | .BoolOp .Or vs _ => resOr n C sc vs
    | .Compare a [op] [b] _ => (match dicOf C sc b with
        | some g => (inOp op).bind fun neg => (resE n C sc a).map fun A => .gin neg g A
        | none => guardO (!isSet b) ((resE n C sc a).bind fun A => (resE n C sc b).map fun B => .cmp (copOf op) A B))
    | .Compare a [op, op'] [b, c] _ => guardO (!isSet b && !isSet c) ((resE n C sc a).bind fun A => (resE n C sc b).bind fun B => (resE n C sc c).map fun D => .chn (copOf op) (copOf op') A B D)
    | .IfExp c a b _ => (resT n C sc c).bind fun T => (resE n C sc a).bind fun A => (resE n C sc b).map fun B => .ite T A B
    | .Call (.Name f _) args [] _ => guardO (okName f && glB sc f) (match fnOf f C.tb.fns with
        | some (i, k) => guardO (args.length == k && !args.isEmpty) ((resEs n C sc args).map (.call i))
        | none => if f = "isinstance" then (isiArgs args).bind fun p => guardO (okName p.2 && glB sc p.2 && !star p.1) ((tyOf p.2).bind fun ty => (resE n C sc p.1).map fun A => .isi A ty) else guardO (!args.isEmpty) ((bifOf f).bind fun b => (resEs n C sc args).map (.bif b)))
    | .Call (.Attribute o m apos) args [] pos => guardO (plainO o && apos.endLine == pos.line) (if m = "bit_length" ∧ args.isEmpty = true then (resE n C sc o).map .bits else if m = "translate" then (trArgs args).bind fun p => guardO (litTab p.1 p.2) ((resE n C sc o).map .tr37) else guardO (decide (args.length < 30)) ((metOf m).bind fun t => (resE n C sc o).bind fun A => (resEs n C sc args).map (.met t A)))
    | .Subscript a (.Slice lo hi none _) _ => (resE n C sc a).bind fun A => (resO n C sc lo).bind fun L => (resO n C sc hi).map fun U => .slc A L U
    | .Subscript a b _ => guardO (!isSlc b) (match dicOf C sc a with
      | some g => (resE n C sc b).map fun B => .gdict g B
      | none => (resE n C sc a).bind fun A => (resE n C sc b).map fun B => .idx A B)
    | .Tuple es _ _ => (resEs n C sc es).map .tup
    | .FormattedValue a (-1) none _ => (resE n C sc a).map .fmt
    | .JoinedStr [a] _ => resE n C sc a
    | .JoinedStr (a :: b :: r) _ => (resEs n C sc (a :: b :: r)).map .fs
    | .List es _ => (resEs n C sc es).map .lst
    | .ListComp elt [⟨tg, iter, ifs, 0⟩] scope _ =>
      let own : List (Str × Nat) := ownOf C.N scope
      guardO (blkC C.N sc scope own && !isSet iter) ((resTg C.N (own.map Prod.fst) tg).bind fun t => guardO ((slotsOf t).all fun i => decide (i ∈ own.map Prod.snd)) ((resI n C sc iter).bind fun it =>
        (match ifs with
          | [] => some T.yes
          | [c] => resT n C (relS scope sc) c
          | _ => none).bind fun c => (resE n C (relS scope sc) elt).map fun e => .comp (own.map Prod.snd) t it c e))
    | _ => none
def resAnd : Nat → RC → Scope → List Expr → Option E
  | 0, _, _, _ => none
  | n + 1, C, sc, es => match es with
    | [a] => resE n C sc a
    | a :: b :: r => (resE n C sc a).bind fun A => (resAnd n C sc (b :: r)).map fun B => .and A B
    | [] => none
def resOr : Nat → RC → Scope → List Expr → Option E
  | 0, _, _, _ => none
  | n + 1, C, sc, es => match es with
    | [a] => resE n C sc a
    | a :: b :: r => (resE n C sc a).bind fun A => (resOr n C sc (b :: r)).map fun B => .or A B
    | [] => none
def resEs : Nat → RC → Scope → List Expr → Option Es
  | 0, _, _, _ => none
  | n + 1, C, sc, es => match es with
    | [] => some .nil
    | e :: r => guardO (!star e) ((resE n C sc e).bind fun A => (resEs n C sc r).map (.cons A))
def resO : Nat → RC → Scope → Option Expr → Option O
  | 0, _, _, _ => none
  | n + 1, C, sc, o => match o with
    | none => some .none
    | some e => (resE n C sc e).map .some
def resT : Nat → RC → Scope → Expr → Option T
  | 0, _, _, _ => none
  | n + 1, C, sc, e => match e with
    | .UnaryOp .Not a _ => (resT n C sc a).map .not
    | .BoolOp .And vs _ => resTAnd n C sc vs
    | .BoolOp .Or vs _ => resTOr n C sc vs
    | .Compare a [op] [b] _ => (match dicOf C sc b with
        | some g => (inOp op).bind fun neg => (resE n C sc a).map fun A => .val (.gin neg g A)
        | none => guardO (!isSet b) ((resE n C sc a).bind fun A => (resE n C sc b).map fun B => .val (.cmp (copOf op) A B)))
    | .Compare a [op, op'] [b, c] _ => guardO (!isSet b && !isSet c) ((resE n C sc a).bind fun A => (resE n C sc b).bind fun B => (resE n C sc c).map fun D => .val (.chn (copOf op) (copOf op') A B D))
    | e => guardO (plainT e) ((resE n C sc e).map .val)
def resTAnd : Nat → RC → Scope → List Expr → Option T
  | 0, _, _, _ => none
  | n + 1, C, sc, es => match es with
    | [a] => resT n C sc a
    | a :: b :: r => (resT n C sc a).bind fun A => (resTAnd n C sc (b :: r)).map fun B => .and A B
    | [] => none
def resTOr : Nat → RC → Scope → List Expr → Option T
  | 0, _, _, _ => none
  | n + 1, C, sc, es => match es with
    | [a] => resT n C sc a
    | a :: b :: r => (resT n C sc a).bind fun A => (resTOr n C sc (b :: r)).map fun B => .or A B
    | [] => none
def resI : Nat → RC → Scope → Expr → Option IT
  | 0, _, _, _ => none
  | n + 1, C, sc, e => match e with
    | .Call (.Name f _) args [] _ => if f = "range" then guardO (glB sc f) (match args with
        | [a] => guardO (!star a) ((resE n C sc a).map .rng1)
        | [a, b] => guardO (!star a && !star b) ((resE n C sc a).bind fun A => (resE n C sc b).map fun B => .rng2 A B)
        | _ => none) else (resE n C sc e).map .seq
    | e => guardO (!isSet e) ((resE n C sc e).map .seq)
end
end PyI
/-! A7: expressions: each form by itself. -/
namespace PyI
open PySem L2

/-! ### the forms -/
section
variable {env : Env} {e a b o : Expr} {es : List Expr}
theorem star_cons (h : star e = false) : starEach (e :: es) env = (false, eval e env) :: starEach es env := by
  cases e <;> first | rfl | (simp [star] at h)
theorem star_nil : starEach [] env = [] := rfl
theorem star_all {pos : Pos} : ∀ {es : List Expr}, es.all (fun e => !star e) = true → (backTo pos (starEach es env)).any (·.1) = false
  | [], _ => rfl
  | e :: es, h => by
    simp only [List.all_cons, Bool.and_eq_true, Bool.not_eq_true'] at h
    rw [star_cons h.1]
    have ih := star_all (pos := pos) h.2
    show (false || (backTo pos (starEach es env)).any (·.1)) = false
    rw [ih]; rfl
theorem star_all' {pos : Pos} : ∀ {es : List Expr}, es.all (fun e => !star e) = true → (backTo pos (starEach es env)).all (fun x => !x.1) = true
  | [], _ => rfl
  | e :: es, h => by
    simp only [List.all_cons, Bool.and_eq_true, Bool.not_eq_true'] at h
    rw [star_cons h.1]
    have ih := star_all' (pos := pos) h.2
    show (true && (backTo pos (starEach es env)).all (fun x => !x.1)) = true
    rw [ih]; rfl
theorem true_plain (h : plainT e = true) (whole : Sem Value) : isTrue e env whole = (do let v ← whole; standAt e.pos; holding [v] (truthy v)) := by
  cases e <;> first | rfl | (simp [plainT] at h; done) | skip
  rename_i op x pos
  cases op <;> first | rfl | (simp [plainT] at h)
theorem slc_plain (h : isSlc b = false) (x y : Value) : subscripted b false x y = operate [x, y] (getItem x y) := by
  cases b <;> first | rfl | skip
  rename_i l u s p
  cases s with
  | none => simp [isSlc] at h
  | some s => rfl
theorem base_plain {m : Str} (h : plainO o = true) : attributeBase o m env (eval o env) = eval o env := by
  unfold attributeBase
  split
  · rename_i id p pos
    have h' : id ≠ ("super" : Str) := by simpa [plainO] using h
    have e : (id != ("super" : Str)) = true := by simpa using h'
    simp only [e, Bool.true_or, if_true]
  · rfl
theorem set_marks {op : CmpOp} (h : isSet b = false) : behindInMarks op b = false := by
  cases b <;> first | rfl | (simp [isSet] at h)
theorem set_last {op op' : CmpOp} {c : Expr} (h : isSet c = false) : lastMarks [op, op'] [b, c] = false := by
  show lastMarks [op'] [c] = false
  exact set_marks h
theorem set_iter (h : isSet e = false) (x : Value) : foldedSetIterable e env x = pure x := by
  cases e <;> first | rfl | (simp [isSet] at h)
end

mutual
theorem beq_eq : ∀ (a b : D), D.beq a b = true → a = b
  | .non, b, h => by cases b <;> first | rfl | (simp [D.beq] at h)
  | .bl a, b, h => by cases b <;> first | (simp [D.beq] at h; done) | (rw [show a = _ from by simpa [D.beq] using h])
  | .int a, b, h => by cases b <;> first | (simp [D.beq] at h; done) | (rw [show a = _ from by simpa [D.beq] using h])
  | .str a, b, h => by cases b <;> first | (simp [D.beq] at h; done) | (rw [show a = _ from by simpa [D.beq] using h])
  | .ref a, b, h => by cases b <;> first | (simp [D.beq] at h; done) | (rw [show a = _ from by simpa [D.beq] using h])
  | .tup a, b, h => by
    cases b with
    | tup b => rw [beqs_eq a b (by simpa only [D.beq] using h)]
    | _ => simp [D.beq] at h
  | .lst a, b, h => by
    cases b with
    | lst b => rw [beqs_eq a b (by simpa only [D.beq] using h)]
    | _ => simp [D.beq] at h
theorem beqs_eq : ∀ (a b : List D), D.beqs a b = true → a = b
  | [], b, h => by cases b <;> first | rfl | (simp [D.beqs] at h)
  | x :: xs, b, h => by
    cases b with
    | nil => simp [D.beqs] at h
    | cons y ys =>
      simp only [D.beqs, Bool.and_eq_true] at h
      rw [beq_eq x y h.1, beqs_eq xs ys h.2]
end
end PyI
/-! A8: expressions, form by form. -/
namespace PyI
open PySem L2

def SndO (X : Cx) (ct : CTab) (Γ : G) (o : Option Expr) (A : O) : Prop := ∃ t : TO, PO X o t ∧ ∀ (W : WX) (ρ : Rho) (μ : Mu) (σ : St) (H : Hp) (M : AM) (Q : Option Int → Hp → Prop), Takes X W → RelE X.K H M σ ρ → RelH X.K ct H μ M →
  Ok X.K ct RO M H (evalO Γ A ρ μ) Q (fun c d H' => W c d σ H') → t σ H Q
def wW (X : Cx) (e : Expr) : TT := fun σ H Q => ∀ whole pins s, Inv X pins σ H s → wpAny (model X.prog X.w) X.A (isTrue e X.env whole) (TP X pins σ Q) X.xe s
theorem pW {X : Cx} {e : Expr} : PW X e (wW X e) := ⟨fun whole pins s _ _ _ I h => h whole pins s I⟩
theorem ww {X : Cx} {e : Expr} {t : TT} {σ : St} {H : Hp} {Q : Bool → Hp → Prop} (p : PW X e t) (h : t σ H Q) : wW X e σ H Q := fun whole pins s I => p.run whole pins s σ H Q I h
def SndW (X : Cx) (ct : CTab) (Γ : G) (e : Expr) (A : T) : Prop := ∀ (W : WX) (ρ : Rho) (μ : Mu) (σ : St) (H : Hp) (M : AM) (Q : Bool → Hp → Prop), Takes X W → RelE X.K H M σ ρ → RelH X.K ct H μ M →
  Ok X.K ct RB M H (evalT Γ A ρ μ) Q (fun c d H' => W c d σ H') → wW X e σ H Q
section
variable {X : Cx} {ct : CTab} {Γ : G} {N : List Str} {sc : Scope} {tb : Tb} {e a b c o : Expr} {es args : List Expr} {A B C' : E} {As : Es} {pos apos : Pos} {j : Nat}
theorem snd_cst {v : V} {d : D} (p : PE X e (tC v)) (r : ∀ H M, Rep X.K H M v d) : Snd X ct Γ e (.cst d) := by
  intro W ρ μ σ H M Q tk E R h
  exact we p (Ok.ret (μ := μ) h R (r _ _))
theorem snd_var {i : Nat} {x : Str} (F : Fr X ct tb Γ N sc) (hi : N[i]? = some x) (hv : visB sc x = true) (hd : okName x = true) : Snd X ct Γ (.Name x pos) (.var i) := by
  intro W ρ μ σ H M Q tk E R h
  have hd' : (x == ("__debug__" : Str)) = false ∧ (x == ("__classdict__" : Str)) = false := by simp [okName] at hd ⊢; exact ⟨hd.1.1, hd.1.2⟩
  have hvis : Vis X.env.scope x := by
    rw [F.hsc]
    unfold visB at hv
    unfold Vis
    split at hv
    · rename_i q; exact .inl q
    · rename_i q; exact .inr (.inl q)
    · rename_i q; exact .inr (.inr q)
    · cases hv
  refine we (pe_var (i := i) (by rw [F.hN]; exact hi) hvis hd'.1 hd'.2) ?_
  unfold evalE at h
  split at h
  · rename_i d hd
    obtain ⟨v, h1, r⟩ := E.at_ i d hd
    exact ⟨v, h1, h.ret R r⟩
  · exact h.elim
theorem gl_of (F : Fr X ct tb Γ N sc) {x : Str} (h : glB sc x = true) : Gl X x := by
  unfold glB at h
  split at h
  · rename_i q
    show X.env.scope.names.lookup x = _
    rw [F.hsc]; exact q
  · cases h
theorem ok1 {x : Str} (h : okName x = true) : (x == ("__debug__" : Str)) = false := by simp [okName] at h ⊢; exact h.1.1
theorem ok3 {x : Str} (h : okName x = true) : x ≠ "__name__" := by simp [okName] at h ⊢; exact h.2
theorem snd_glob {g : Nat} {x : Str} (F : Fr X ct tb Γ N sc) (hi : tb.cons[g]? = some x) (hv : glB sc x = true) (hd : okName x = true) : Snd X ct Γ (.Name x pos) (.glob g) := by
  intro W ρ μ σ H M Q tk E R h
  unfold evalE at h
  split at h
  · rename_i d hc
    obtain ⟨u, v, h1, h2, h3⟩ := F.g.con g x d hi hc
    exact we (pe_glob (gl_of F hv) h1 h2 (ok1 hd)) (h.ret R (h3 _ _))
  · exact h.elim
theorem snd_bin {op : Operator} {o : Bop} (ho : bopOf op = some o) (ha : Snd X ct Γ a A) (hb : Snd X ct Γ b B) : Snd X ct Γ (.BinOp a op b pos) (.bin o A B) := by
  intro W ρ μ σ H M Q tk E R h
  unfold evalE at h
  refine we (pe_op pO pE pE) ?_
  refine ha W ρ μ σ H M _ tk E R (h.step fun d μ1 v H1 M1 e1 R1 r1 h1 => ?_)
  refine hb W ρ μ1 σ H1 M1 _ tk (E.evo e1) R1 (h1.step fun d2 μ2 u H2 M2 e2 R2 r2 h2 => ?_)
  exact bin_ok ho R2 (r1.evo e2) r2 h2
theorem snd_neg (ha : Snd X ct Γ a A) : Snd X ct Γ (.UnaryOp .USub a pos) (.neg A) := by
  intro W ρ μ σ H M Q tk E R h
  unfold evalE at h
  refine we (pe_un un_neg pE) ?_
  refine ha W ρ μ σ H M _ tk E R (h.step fun d μ1 v H1 M1 e1 R1 r1 h1 => ?_)
  split at h1
  · cases r1; exact ⟨_, rfl, h1.ret R1 (.int _)⟩
  · exact h1.elim
theorem snd_inv (ha : Snd X ct Γ a A) : Snd X ct Γ (.UnaryOp .Invert a pos) (.inv A) := by
  intro W ρ μ σ H M Q tk E R h
  unfold evalE at h
  refine we (pe_un un_inv pE) ?_
  refine ha W ρ μ σ H M _ tk E R (h.step fun d μ1 v H1 M1 e1 R1 r1 h1 => ?_)
  split at h1
  · cases r1; exact ⟨_, rfl, h1.ret R1 (.int _)⟩
  · exact h1.elim
theorem snd_bits (ho : plainO a = true) {apos : Pos} (hl : (apos.endLine == pos.line) = true) (ha : Snd X ct Γ a A) : Snd X ct Γ (.Call (.Attribute a "bit_length" apos) [] [] pos) (.bits A) := by
  intro W ρ μ σ H M Q tk E R h
  unfold evalE at h
  refine we (pe_bits pE (base_plain ho) hl) ?_
  refine ha W ρ μ σ H M _ tk E R (h.step fun d μ1 v H1 M1 e1 R1 r1 h1 => ?_)
  split at h1
  · cases r1; exact ⟨_, rfl, h1.ret R1 (.int _)⟩
  · exact h1.elim
theorem snd_notv (ha : Snd X ct Γ a A) : Snd X ct Γ (.UnaryOp .Not a pos) (.notv (.val A)) := by
  intro W ρ μ σ H M Q tk E R h
  simp only [evalE, evalT] at h
  refine we (pe_notT pE) ?_
  refine ha W ρ μ σ H M _ tk E R ?_
  cases hA : evalE Γ A ρ μ with
  | stuck => rw [hA] at h; exact h.elim
  | err c fs μ' => rw [hA] at h; exact h
  | ok d μ' =>
    rw [hA] at h
    intro v H1 M1 e1 R1 r1
    have h1 : Ok X.K ct (RD X.K) M1 H1 ((truD μ' d μ').bind fun b μ => .ok (.bl (!b)) μ) Q _ := Ok.evo e1 h
    obtain ⟨k, t, et, q⟩ := tru_ok (ν := μ') (B := fun k H' => Q (.bl (!k)) H') R1 r1 (h1.step fun k μ2 v2 H2 M2 e2 R2 r2 h2 => by cases r2; exact h2.ret R2 (.bl _))
    exact ⟨k, t, q⟩
theorem snd_and {rest : List Expr} (ha : Snd X ct Γ a A) (hb : Snd X ct Γ (.BoolOp .And (b :: rest) pos) B) : Snd X ct Γ (.BoolOp .And (a :: b :: rest) pos) (.and A B) := by
  intro W ρ μ σ H M Q tk E R h
  unfold evalE at h
  refine we (pe_andT pE pE) ?_
  refine ha W ρ μ σ H M _ tk E R (h.step fun d μ1 v H1 M1 e1 R1 r1 h1 => ?_)
  have h2 : Ok X.K ct RB M1 H1 (truD μ1 d μ1) (fun k H' => if k = true then wE X (.BoolOp .And (b :: rest) pos) σ H' Q else Q v H') (fun c d H' => W c d σ H') := by
    refine h1.step fun k μ2 v2 H2 M2 e2 R2 r2 h2 => ?_
    cases r2
    cases k with
    | true => exact hb W ρ μ2 σ H2 M2 _ tk ((E.evo e1).evo e2) R2 h2
    | false => exact h2.ret R2 (r1.evo e2)
  obtain ⟨k, t, _, q⟩ := tru_ok (ν := μ1) R1 r1 h2
  exact ⟨k, t, q⟩
theorem snd_or {rest : List Expr} (ha : Snd X ct Γ a A) (hb : Snd X ct Γ (.BoolOp .Or (b :: rest) pos) B) : Snd X ct Γ (.BoolOp .Or (a :: b :: rest) pos) (.or A B) := by
  intro W ρ μ σ H M Q tk E R h
  unfold evalE at h
  refine we (pe_orT pE pE) ?_
  refine ha W ρ μ σ H M _ tk E R (h.step fun d μ1 v H1 M1 e1 R1 r1 h1 => ?_)
  have h2 : Ok X.K ct RB M1 H1 (truD μ1 d μ1) (fun k H' => if k = true then Q v H' else wE X (.BoolOp .Or (b :: rest) pos) σ H' Q) (fun c d H' => W c d σ H') := by
    refine h1.step fun k μ2 v2 H2 M2 e2 R2 r2 h2 => ?_
    cases r2
    cases k with
    | true => exact h2.ret R2 (r1.evo e2)
    | false => exact hb W ρ μ2 σ H2 M2 _ tk ((E.evo e1).evo e2) R2 h2
  obtain ⟨k, t, _, q⟩ := tru_ok (ν := μ1) R1 r1 h2
  exact ⟨k, t, q⟩
theorem snd_cmp {op : CmpOp} (F : Fr X ct tb Γ N sc) (hs : isSet b = false) (ha : Snd X ct Γ a A) (hb : Snd X ct Γ b B) : Snd X ct Γ (.Compare a [op] [b] pos) (.cmp (copOf op) A B) := by
  intro W ρ μ σ H M Q tk E R h
  unfold evalE at h
  refine we (pe_cmpR pO pE pE (set_marks hs)) ?_
  refine ha W ρ μ σ H M _ tk E R (h.step fun d μ1 v H1 M1 e1 R1 r1 h1 => ?_)
  refine hb W ρ μ1 σ H1 M1 _ tk (E.evo e1) R1 (h1.step fun d2 μ2 u H2 M2 e2 R2 r2 h2 => ?_)
  exact cmp_ok (B := fun k H' => Q (.bl k) H') F.g.units R2 (r1.evo e2) r2 (h2.step fun k μ3 v3 H3 M3 e3 R3 r3 h3 => by cases r3; exact h3.ret R3 (.bl _)) fun _ _ q => q
theorem chn_tail {op op' : CmpOp} {Qv : VK} (F : Fr X ct tb Γ N sc) {W : WX} {ρ : Rho} {μ : Mu} {σ : St} {H : Hp} {M : AM} (tk : Takes X W) (E : RelE X.K H M σ ρ) (R : RelH X.K ct H μ M) (ha : Snd X ct Γ a A) (hb : Snd X ct Γ b B) (hc : Snd X ct Γ c C')
    (h : Ok X.K ct (RD X.K) M H (evalE Γ (.chn (copOf op) (copOf op') A B C') ρ μ) Qv (fun c d H' => W c d σ H')) : tChain (wO X (compareOp op)) (wO X (compareOp op')) (wE X a) (wE X b) (wE X c) σ H Qv := by
  unfold evalE at h
  refine ha W ρ μ σ H M _ tk E R (h.step fun d μ1 v H1 M1 e1 R1 r1 h1 => ?_)
  refine hb W ρ μ1 σ H1 M1 _ tk (E.evo e1) R1 (h1.step fun d2 μ2 u H2 M2 e2 R2 r2 h2 => ?_)
  refine cmp_ok (B := fun k H' => ∃ k', V.bl k = .bl k' ∧ if k' = true then wE X c σ H' fun z H4 => wO X (compareOp op') u z H4 Qv else Qv (.bl false) H') F.g.units R2 (r1.evo e2) r2 (h2.step fun k μ3 v3 H3 M3 e3 R3 r3 h3 => ?_) fun k H' q => q
  cases r3
  refine ⟨_, rfl, ?_⟩
  cases k with
  | true =>
    refine hc W ρ μ3 σ H3 M3 _ tk (((E.evo e1).evo e2).evo e3) R3 (h3.step fun d4 μ4 z H4 M4 e4 R4 r4 h4 => ?_)
    exact cmp_ok (B := fun k H' => Qv (.bl k) H') F.g.units R4 ((r2.evo e3).evo e4) r4 (h4.step fun k μ5 v5 H5 M5 e5 R5 r5 h5 => by cases r5; exact h5.ret R5 (.bl _)) fun _ _ q => q
  | false => exact h3.ret R3 (.bl _)
theorem snd_chn {op op' : CmpOp} (F : Fr X ct tb Γ N sc) (hs : isSet c = false) (ha : Snd X ct Γ a A) (hb : Snd X ct Γ b B) (hc : Snd X ct Γ c C') : Snd X ct Γ (.Compare a [op, op'] [b, c] pos) (.chn (copOf op) (copOf op') A B C') := by
  intro W ρ μ σ H M Q tk E R h
  exact we (pe_chain pO pO pE pE pE (set_last hs)) (chn_tail F tk E R ha hb hc h)
theorem snd_ite {t : T} (hc : SndT X ct Γ c t) (ha : Snd X ct Γ a A) (hb : Snd X ct Γ b B) : Snd X ct Γ (.IfExp c a b pos) (.ite t A B) := by
  intro W ρ μ σ H M Q tk E R h
  unfold evalE at h
  refine we (pe_ifExp pT pE pE) ?_
  refine hc W ρ μ σ H M _ tk E R (h.step fun k μ1 v H1 M1 e1 R1 r1 h1 => ?_)
  cases r1
  cases k with
  | true => exact ha W ρ μ1 σ H1 M1 _ tk (E.evo e1) R1 h1
  | false => exact hb W ρ μ1 σ H1 M1 _ tk (E.evo e1) R1 h1
theorem snd_call {f : Str} {i k : Nat} (F : Fr X ct tb Γ N sc) (hd : okName f = true) (hg : glB sc f = true) (hf : tb.fns[i]? = some (f, k)) (hs : (e :: es).all (fun e => !star e) = true) (ha : SndA X ct Γ (e :: es) As) : Snd X ct Γ (.Call (.Name f apos) (e :: es) [] pos) (.call i As) := by
  intro W ρ μ σ H M Q tk E R h
  unfold evalE at h
  obtain ⟨k', ad, fd, ps, FO, hr, hm, hk, hb⟩ := F.g.call i f k hf
  simp only [List.all_cons, Bool.and_eq_true, Bool.not_eq_true'] at hs
  refine we (pe_callSD (E := fun σ cls d H => W cls d σ H) FO hr (gl_of F hg) hm hk hb .nil (fun σ => passAt tk σ) pA (ok1 hd) (star_cons hs.1) (star_all hs.2)) ?_
  refine ha W ρ μ σ H M _ tk E R (h.step fun ds μ1 vs H1 M1 e1 R1 r1 h1 => ?_)
  rw [List.append_nil]
  refine ⟨ds, μ1, M1, ?_, R1, r1, h1⟩
  by_cases q : ds.length = k
  · rw [r1.length]; exact q
  · rw [F.g.ar i f k ds μ1 hf q] at h1; exact h1.elim
theorem bif_boot {f : Str} {b : Bif} (h : bifOf f = some b) : f ∈ bins ∧ bootBuiltins f = some (bifV b) := by
  unfold bifOf at h
  by_cases q0 : f = "len"
  · rw [if_pos q0] at h
    cases h
    rw [q0]
    exact ⟨by decide, by decide +kernel⟩
  rw [if_neg q0] at h
  by_cases q1 : f = "int"
  · rw [if_pos q1] at h
    cases h
    rw [q1]
    exact ⟨by decide, by decide +kernel⟩
  rw [if_neg q1] at h
  by_cases q2 : f = "str"
  · rw [if_pos q2] at h
    cases h
    rw [q2]
    exact ⟨by decide, by decide +kernel⟩
  rw [if_neg q2] at h
  by_cases q3 : f = "tuple"
  · rw [if_pos q3] at h
    cases h
    rw [q3]
    exact ⟨by decide, by decide +kernel⟩
  rw [if_neg q3] at h
  by_cases q4 : f = "list"
  · rw [if_pos q4] at h
    cases h
    rw [q4]
    exact ⟨by decide, by decide +kernel⟩
  rw [if_neg q4] at h
  by_cases q5 : f = "abs"
  · rw [if_pos q5] at h
    cases h
    rw [q5]
    exact ⟨by decide, by decide +kernel⟩
  rw [if_neg q5] at h
  by_cases q6 : f = "max"
  · rw [if_pos q6] at h
    cases h
    rw [q6]
    exact ⟨by decide, by decide +kernel⟩
  rw [if_neg q6] at h
  by_cases q7 : f = "min"
  · rw [if_pos q7] at h
    cases h
    rw [q7]
    exact ⟨by decide, by decide +kernel⟩
  rw [if_neg q7] at h
  by_cases q8 : f = "ord"
  · rw [if_pos q8] at h
    cases h
    rw [q8]
    exact ⟨by decide, by decide +kernel⟩
  rw [if_neg q8] at h
  by_cases q9 : f = "sum"
  · rw [if_pos q9] at h
    cases h
    rw [q9]
    exact ⟨by decide, by decide +kernel⟩
  rw [if_neg q9] at h
  by_cases q10 : f = "any"
  · rw [if_pos q10] at h
    cases h
    rw [q10]
    exact ⟨by decide, by decide +kernel⟩
  rw [if_neg q10] at h
  by_cases q11 : f = "all"
  · rw [if_pos q11] at h
    cases h
    rw [q11]
    exact ⟨by decide, by decide +kernel⟩
  rw [if_neg q11] at h
  by_cases q12 : f = "sorted"
  · rw [if_pos q12] at h
    cases h
    rw [q12]
    exact ⟨by decide, by decide +kernel⟩
  rw [if_neg q12] at h
  cases h
theorem snd_bif {f : Str} {b : Bif} (F : Fr X ct tb Γ N sc) (hd : okName f = true) (hg : glB sc f = true) (hf : bifOf f = some b) (hs : (e :: es).all (fun e => !star e) = true) (ha : SndA X ct Γ (e :: es) As) : Snd X ct Γ (.Call (.Name f apos) (e :: es) [] pos) (.bif b As) := by
  intro W ρ μ σ H M Q tk E R h
  unfold evalE at h
  obtain ⟨hb, hv⟩ := bif_boot hf
  simp only [List.all_cons, Bool.and_eq_true, Bool.not_eq_true'] at hs
  have go : wA X (e :: es) σ H fun vs H1 => wC X (bifV b) vs H1 Q :=
    ha W ρ μ σ H M _ tk E R (h.step fun ds μ1 vs H1 M1 e1 R1 r1 h1 => bif_ok F.calm R1 r1 h1)
  cases hbv : bifV b with
  | builtin id => rw [hbv] at hv go; exact we (pe_callB pC (gl_of F hg) (F.g.bi f hb) hv pA (ok3 hd) (ok1 hd) (star_cons hs.1) (star_all hs.2)) go
  | type T => rw [hbv] at hv go; exact we (pe_callTy pC (gl_of F hg) (F.g.bi f hb) hv pA (ok3 hd) (ok1 hd) (star_cons hs.1) (star_all hs.2)) go
  | _ => cases b <;> cases hbv
theorem ty_boot {f : Str} {t : Ty} (h : tyOf f = some t) : f ∈ bins ∧ bootBuiltins f = some (.type (tyN t)) := by
  unfold tyOf at h
  repeat' (split at h; · rename_i q; subst q; cases h; exact ⟨by decide, by decide +kernel⟩)
  cases h
theorem snd_isi {f : Str} {t : Ty} {p2 : Pos} (F : Fr X ct tb Γ N sc) (hg : glB sc "isinstance" = true) (hd : okName f = true) (hgt : glB sc f = true) (hf : tyOf f = some t) (hs : star a = false) (ha : Snd X ct Γ a A) : Snd X ct Γ (.Call (.Name "isinstance" apos) [a, .Name f p2] [] pos) (.isi A t) := by
  intro W ρ μ σ H M Q tk E R h
  unfold evalE at h
  obtain ⟨hb, hv⟩ := ty_boot hf
  have pt : PE X (.Name f p2) (tC (.ty (tyN t))) := pe_bltn (gl_of F hgt) (F.g.bi f hb) hv rfl (ok3 hd) (ok1 hd)
  refine we (pe_callB (id := "isinstance") pC (gl_of F hg) (F.g.bi _ (by decide)) (by decide +kernel) (pa_cons pE (pa_cons pt pa_nil) (star_cons hs)) (by decide) (by decide) (star_cons hs) rfl) ?_
  refine ha W ρ μ σ H M _ tk E R (h.step fun d μ1 v H1 M1 e1 R1 r1 h1 => ?_)
  exact isi_ok R1 r1 h1
theorem met_boot {f : Str} {m : Met} (h : metOf f = some m) : PlainAttrs (metT m) ∧ Slot (metT m) f (metI m) ∧ typeOf (.builtin (metI m)) = pure (.type "method_descriptor") := by
  unfold metOf at h
  split at h
  · rename_i q; subst q; cases h; exact ⟨F.plainAttrs_list, F.slot_list_append, F.type_list_append⟩
  split at h
  · rename_i q; subst q; cases h; exact ⟨F.plainAttrs_str, F.slot_str_join, F.type_str_join⟩
  split at h
  · rename_i q; subst q; cases h; exact ⟨F.plainAttrs_str, F.slot_str_find, F.type_str_find⟩
  split at h
  · rename_i q; subst q; cases h; exact ⟨F.plainAttrs_str, F.slot_str_isascii, F.type_str_isascii⟩
  split at h
  · rename_i q; subst q; cases h; exact ⟨F.plainAttrs_str, F.slot_str_isprintable, F.type_str_isprintable⟩
  split at h
  · rename_i q; subst q; cases h; exact ⟨F.plainAttrs_str, F.slot_str_split, F.type_str_split⟩
  split at h
  · rename_i q; subst q; cases h; exact ⟨F.plainAttrs_str, F.slot_str_isdigit, F.type_str_isdigit⟩
  split at h
  · rename_i q; subst q; cases h; exact ⟨F.plainAttrs_str, F.slot_str_isalpha, F.type_str_isalpha⟩
  split at h
  · rename_i q; subst q; cases h; exact ⟨F.plainAttrs_str, F.slot_str_islower, F.type_str_islower⟩
  split at h
  · rename_i q; subst q; cases h; exact ⟨F.plainAttrs_str, F.slot_str_startswith, F.type_str_startswith⟩
  split at h
  · rename_i q; subst q; cases h; exact ⟨F.plainAttrs_str, F.slot_str_endswith, F.type_str_endswith⟩
  cases h
theorem snd_met {f : Str} {m : Met} (ho : plainO o = true) (hl : (apos.endLine == pos.line) = true) (hn : args.length < 30) (hf : metOf f = some m) (hs : args.all (fun e => !star e) = true) (hnil : args = [] → As = .nil) (hO : Snd X ct Γ o A) (ha : SndA X ct Γ args As) : Snd X ct Γ (.Call (.Attribute o f apos) args [] pos) (.met m A As) := by
  intro W ρ μ σ H M Q tk E R h
  unfold evalE at h
  obtain ⟨b1, b2, b3⟩ := met_boot hf
  cases args with
  | nil =>
    refine we (pe_bm0 b1 b2 b3 pM pE (base_plain ho) hl) ?_
    refine hO W ρ μ σ H M _ tk E R (h.step fun d μ1 v H1 M1 e1 R1 r1 h1 => ?_)
    obtain ⟨ht, h1⟩ := h1.needs
    refine ⟨met_ty R1 r1 ht, ?_⟩
    rw [hnil rfl] at h1
    exact met_ok R1 r1 .nil (h1 : Ok X.K ct (RD X.K) M1 H1 (metD m d [] μ1) Q _)
  | cons e es =>
    simp only [List.all_cons, Bool.and_eq_true, Bool.not_eq_true'] at hs
    refine we (pe_bm b1 b2 b3 pM pE pA (base_plain ho) ?_ hl (star_cons hs.1) (star_all hs.2)) ?_
    · rw [star_all' (by simp only [List.all_cons, Bool.and_eq_true, Bool.not_eq_true']; exact hs)]
      simp only [Bool.true_and]
      show (([] : List (Option Str × Sem Value)).all _ && decide _) = true
      simp only [List.all_nil, Bool.true_and, decide_eq_true_eq]
      simpa using hn
    refine hO W ρ μ σ H M _ tk E R (h.step fun d μ1 v H1 M1 e1 R1 r1 h1 => ?_)
    obtain ⟨ht, h1⟩ := h1.needs
    refine ⟨met_ty R1 r1 ht, ?_⟩
    refine ha W ρ μ1 σ H1 M1 _ tk (E.evo e1) R1 (h1.step fun ds μ2 vs H2 M2 e2 R2 r2 h2 => ?_)
    exact met_ok R2 (r1.evo e2) r2 h2
theorem snd_tr37 {ks : List (Option Expr)} {vs : List Expr} {dpos : Pos} (F : Fr X ct tb Γ N sc) (ho : plainO o = true) (hl : (apos.endLine == pos.line) = true) (ht : litTab ks vs = true) (hO : Snd X ct Γ o A) : Snd X ct Γ (.Call (.Attribute o "translate" apos) [.Dict ks vs dpos] [] pos) (.tr37 A) := by
  intro W ρ μ σ H M Q tk E R h
  unfold evalE at h
  unfold litTab at ht
  split at ht
  · refine we (pe_bm PySem.F.plainAttrs_str PySem.F.slot_str_translate PySem.F.type_str_translate (mt_tr37 F.calm) pE (pa_cons (pe_disp (pps_cons pe_int pe_non pps_nil) rfl rfl (fun z => by cases z) (by show 1 ≤ 15; decide)) pa_nil) (base_plain ho) rfl hl rfl rfl) ?_
    refine hO W ρ μ σ H M _ tk E R (h.step fun d μ1 v H1 M1 e1 R1 r1 h1 => ?_)
    unfold tr37D at h1
    split at h1
    · cases r1
      obtain ⟨⟨hz, hf⟩, h1⟩ := h1.needs
      refine ⟨rfl, fun p hp => ?_⟩
      refine ⟨upd_same, [(.inl 37, .non)], rfl, by decide, ?_⟩
      have e2 : Evo M1 H1 M1 (upd (upd H1 p (.dK [])) p (.dK (mergeK [] [(.inl 37, .non)]))) := by rw [upd_upd]; exact Evo.new hp
      refine ⟨_, p, rfl, rfl, upd_same, hz, hf, ?_⟩
      exact h1 _ _ M1 e2 (by rw [upd_upd]; exact R1.new hp) (.str _)
    · exact h1.elim
  · cases ht
theorem snd_idx (hs : isSlc b = false) (ha : Snd X ct Γ a A) (hb : Snd X ct Γ b B) : Snd X ct Γ (.Subscript a b pos) (.idx A B) := by
  intro W ρ μ σ H M Q tk E R h
  unfold evalE at h
  refine we (pe_ix ix_seq pE pE (slc_plain hs)) ?_
  refine ha W ρ μ σ H M _ tk E R (h.step fun d μ1 v H1 M1 e1 R1 r1 h1 => ?_)
  refine hb W ρ μ1 σ H1 M1 _ tk (E.evo e1) R1 (h1.step fun d2 μ2 u H2 M2 e2 R2 r2 h2 => ?_)
  exact idx_ok R2 (r1.evo e2) r2 h2
theorem kd_in {g : Nat} {z : Str} {d : Addr} {es : Array DictEntry} {n : Nat} {neg : Bool} {l : List (Str × D)} {Q : VK} {H : Hp} (D1 : KDict X.K X.w d es n) (D2 : ∀ z, match l.lookup z with
    | none => PySem.W.nsIn X.K d z = some none
    | some dd => ∃ u v, PySem.W.nsIn X.K d z = some (some u) ∧ RelV v u ∧ ∀ H M, Rep X.K H M v dd) (q : Q (.bl (if neg then !(l.lookup z).isSome else (l.lookup z).isSome)) H) : wO X (compareOp (if neg then .NotIn else .In)) (.str z) (.ref d) H Q := by
  have h := D2 z
  cases hz : l.lookup z with
  | none =>
    rw [hz] at h q
    cases neg with
    | false => exact wo (op_in_kd D1) ⟨z, _, rfl, rfl, h, q⟩
    | true => exact wo (op_notIn_kd D1) ⟨z, _, rfl, rfl, h, q⟩
  | some dd =>
    rw [hz] at h q
    obtain ⟨u, v, h1, _, _⟩ := h
    cases neg with
    | false => exact wo (op_in_kd D1) ⟨z, _, rfl, rfl, h1, q⟩
    | true => exact wo (op_notIn_kd D1) ⟨z, _, rfl, rfl, h1, q⟩
theorem snd_gin {g : Nat} {neg : Bool} {x : Str} {p2 : Pos} (F : Fr X ct tb Γ N sc) (hd : okName x = true) (hg : glB sc x = true) (hi : tb.dics[g]? = some x) (ha : Snd X ct Γ a A) : Snd X ct Γ (.Compare a [if neg then .NotIn else .In] [.Name x p2] pos) (.gin neg g A) := by
  intro W ρ μ σ H M Q tk E R h
  unfold evalE at h
  obtain ⟨d, hm, es, n, D1, D2⟩ := F.g.dic g x hi
  refine we (pe_cmpR pO pE (pe_glob (v := .ref d) (gl_of F hg) hm rfl (ok1 hd)) (set_marks rfl)) ?_
  refine ha W ρ μ σ H M _ tk E R (h.step fun dd μ1 v H1 M1 e1 R1 r1 h1 => ?_)
  split at h1
  · cases r1
    exact kd_in (g := g) D1 D2 (h1.ret R1 (.bl _))
  · exact h1.elim
theorem sndT_gin {g : Nat} {neg : Bool} {x : Str} {p2 : Pos} (F : Fr X ct tb Γ N sc) (hd : okName x = true) (hg : glB sc x = true) (hi : tb.dics[g]? = some x) (ha : Snd X ct Γ a A) : SndT X ct Γ (.Compare a [if neg then .NotIn else .In] [.Name x p2] pos) (.val (.gin neg g A)) := by
  intro W ρ μ σ H M Q tk E R h
  simp only [evalT, evalE] at h
  obtain ⟨d, hm, es, n, D1, D2⟩ := F.g.dic g x hi
  refine wt (pt_cmpR pO pE (pe_glob (v := .ref d) (gl_of F hg) hm rfl (ok1 hd)) (set_marks rfl)) ?_
  have assoc : ∀ {α β γ : Type} (r : Res α) (f : α → Mu → Res β) (g : β → Mu → Res γ), (r.bind f).bind g = r.bind fun x μ => (f x μ).bind g := fun r f g => by cases r <;> rfl
  rw [assoc] at h
  refine ha W ρ μ σ H M _ tk E R (h.step fun dd μ1 v H1 M1 e1 R1 r1 h1 => ?_)
  cases r1 with
  | str z => exact kd_in (g := g) D1 D2 ⟨_, rfl, Ok.ret (μ := μ1) h1 R1 rfl⟩
  | _ => exact (h1 : False).elim
theorem snd_gdict {g : Nat} {x : Str} {p2 : Pos} (F : Fr X ct tb Γ N sc) (hs : isSlc a = false) (hd : okName x = true) (hg : glB sc x = true) (hi : tb.dics[g]? = some x) (ha : Snd X ct Γ a A) : Snd X ct Γ (.Subscript (.Name x p2) a pos) (.gdict g A) := by
  intro W ρ μ σ H M Q tk E R h
  unfold evalE at h
  obtain ⟨d, hm, es, n, D1, D2⟩ := F.g.dic g x hi
  refine we (pe_ix ix_kdict (pe_glob (v := .ref d) (gl_of F hg) hm rfl (ok1 hd)) pE (slc_plain hs)) ?_
  refine ha W ρ μ σ H M _ tk E R (h.step fun dd μ1 v H1 M1 e1 R1 r1 h1 => ?_)
  split at h1
  · next z =>
    cases r1
    split at h1
    · next d2 hz =>
      have q := D2 z
      rw [hz] at q
      obtain ⟨u, v, q1, q2, q3⟩ := q
      exact ⟨d, z, v, rfl, rfl, ⟨es, n, u, D1.at_, D1.lit, q1, q2⟩, h1.ret R1 (q3 _ _)⟩
    · exact h1.elim
  · exact h1.elim
theorem sndO_none : SndO X ct Γ none .none := ⟨_, po_none, fun W ρ μ σ H M Q tk E R h => Ok.ret (μ := μ) h R rfl⟩
theorem sndO_some (ha : Snd X ct Γ a A) : SndO X ct Γ (some a) (.some A) := ⟨_, po_some pE, fun W ρ μ σ H M Q tk E R h => by
  unfold evalO at h
  refine ha W ρ μ σ H M _ tk E R (h.step fun d μ1 v H1 M1 e1 R1 r1 h1 => ?_)
  split at h1
  · cases r1; exact ⟨_, rfl, h1.ret R1 rfl⟩
  · exact h1.elim⟩
theorem snd_slc {lo hi : Option Expr} {L U : O} {p2 : Pos} (ha : Snd X ct Γ a A) (hl : SndO X ct Γ lo L) (hh : SndO X ct Γ hi U) : Snd X ct Γ (.Subscript a (.Slice lo hi none p2) pos) (.slc A L U) := by
  intro W ρ μ σ H M Q tk E R h
  unfold evalE at h
  obtain ⟨tl, pl, sl⟩ := hl
  obtain ⟨th, ph, sh⟩ := hh
  refine we (pe_slice sl_any pE pl ph) ?_
  refine ha W ρ μ σ H M _ tk E R (h.step fun d μ1 v H1 M1 e1 R1 r1 h1 => ?_)
  refine sl W ρ μ1 σ H1 M1 _ tk (E.evo e1) R1 (h1.step fun l μ2 u H2 M2 e2 R2 r2 h2 => ?_)
  cases r2
  refine sh W ρ μ2 σ H2 M2 _ tk ((E.evo e1).evo e2) R2 (h2.step fun l μ3 u H3 M3 e3 R3 r3 h3 => ?_)
  cases r3
  exact slc_ok R3 ((r1.evo e2).evo e3) h3
theorem snd_tup {k : Nat} (ha : SndA X ct Γ es As) : Snd X ct Γ (.Tuple es k pos) (.tup As) := by
  intro W ρ μ σ H M Q tk E R h
  unfold evalE at h
  refine we (pe_tup pA) ?_
  refine ha W ρ μ σ H M _ tk E R (h.step fun ds μ1 vs H1 M1 e1 R1 r1 h1 => ?_)
  obtain ⟨hz, h1⟩ := h1.needs
  exact ⟨sl16 (by rw [r1.length]; exact hz), fun p hp => h1.newT R1 r1 hp⟩
theorem snd_lst (ha : SndA X ct Γ es As) : Snd X ct Γ (.List es pos) (.lst As) := by
  intro W ρ μ σ H M Q tk E R h
  unfold evalE at h
  refine we (pe_lst pA) ?_
  refine ha W ρ μ σ H M _ tk E R (h.step fun ds μ1 vs H1 M1 e1 R1 r1 h1 => ?_)
  obtain ⟨hz, h1⟩ := h1.needs
  exact ⟨sl16 (by rw [r1.length]; exact hz), fun p hp => h1.newL R1 r1 hp⟩
/-- each of the expressions -/
inductive SndL (X : Cx) (ct : CTab) (Γ : G) : List Expr → Es → Prop
  | nil : SndL X ct Γ [] .nil
  | cons {e : Expr} {A : E} {es : List Expr} {As : Es} : Snd X ct Γ e A → SndL X ct Γ es As → SndL X ct Γ (e :: es) (.cons A As)
theorem snd_fmt (ha : Snd X ct Γ a A) : Snd X ct Γ (.FormattedValue a (-1) none pos) (.fmt A) := by
  intro W ρ μ σ H M Q tk E R h
  unfold evalE at h
  refine we (pe_fmt pE) ?_
  refine ha W ρ μ σ H M _ tk E R (h.step fun d μ1 v H1 M1 e1 R1 r1 h1 => ?_)
  split at h1
  · cases r1
    exact .inl ⟨_, rfl, sl16 h1.needs.1, h1.needs.2.ret R1 (.str _)⟩
  · cases r1
    exact .inr ⟨_, rfl, h1.needs.1, h1.needs.2.ret R1 (.str _)⟩
  · exact h1.elim
theorem pj_all {X : Cx} : ∀ es : List Expr, PJ X es (es.map (wE X))
  | [] => .nil
  | _ :: es => .cons pE (pj_all es)
theorem tjs_ok {W : WX} {ρ : Rho} (tk : Takes X W) {Q : VK} {es : List Expr} {As : Es} (hs : SndL X ct Γ es As) : ∀ {acc : Str} {μ : Mu} {σ : St} {H : Hp} {M : AM}, RelE X.K H M σ ρ → RelH X.K ct H μ M →
    Ok X.K ct (RD X.K) M H (evalJ Γ As acc ρ μ) Q (fun c d H' => W c d σ H') → tJs (es.map (wE X)) acc σ H (fun out H1 => Q (.str out) H1) := by
  induction hs with
  | nil =>
    intro acc μ σ H M E R h
    exact Ok.ret (μ := μ) h R (.str _)
  | cons ha hr ih =>
    intro acc μ σ H M E R h
    unfold evalJ at h
    refine ha W ρ μ σ H M _ tk E R (h.step fun d μ1 v H1 M1 e1 R1 r1 h1 => ?_)
    split at h1
    · cases r1
      exact ⟨_, rfl, sl16 h1.needs.1, ih (E.evo e1) R1 h1.needs.2⟩
    · exact h1.elim
theorem snd_fs {rest : List Expr} (hs : SndL X ct Γ (a :: b :: rest) As) : Snd X ct Γ (.JoinedStr (a :: b :: rest) pos) (.fs As) := by
  intro W ρ μ σ H M Q tk E R h
  unfold evalE at h
  exact we (pe_joined (pj_all _)) (tjs_ok tk hs E R h)
theorem snd_fs1 (ha : Snd X ct Γ a A) : Snd X ct Γ (.JoinedStr [a] pos) A := by
  intro W ρ μ σ H M Q tk E R h
  exact we (pe_joined1 pE) (ha W ρ μ σ H M _ tk E R h)
theorem sndA_nil : SndA X ct Γ [] .nil := by
  intro W ρ μ σ H M Q tk E R h
  exact wa pa_nil (Ok.ret (μ := μ) h R .nil)
theorem sndA_cons (hs : star e = false) (ha : Snd X ct Γ e A) (hr : SndA X ct Γ es As) : SndA X ct Γ (e :: es) (.cons A As) := by
  intro W ρ μ σ H M Q tk E R h
  unfold evalEs at h
  refine wa (pa_cons pE pA (star_cons hs)) ?_
  refine ha W ρ μ σ H M _ tk E R (h.step fun d μ1 v H1 M1 e1 R1 r1 h1 => ?_)
  refine hr W ρ μ1 σ H1 M1 _ tk (E.evo e1) R1 (h1.step fun ds μ2 vs H2 M2 e2 R2 r2 h2 => ?_)
  exact h2.ret R2 (.cons (r1.evo e2) r2)
/-! tests -/
theorem sndT_val (hp : plainT e = true) (ha : Snd X ct Γ e A) : SndT X ct Γ e (.val A) := by
  intro W ρ μ σ H M Q tk E R h
  unfold evalT at h
  refine wt (pt_truth pE (true_plain hp)) ?_
  refine ha W ρ μ σ H M _ tk E R (h.step fun d μ1 v H1 M1 e1 R1 r1 h1 => ?_)
  obtain ⟨k, t, _, q⟩ := tru_ok (ν := μ1) R1 r1 h1
  exact ⟨k, t, q⟩
theorem bl_of {d : D} {μ1 : Mu} {v : V} {H1 : Hp} {M1 : AM} {k : Bool} {W' : XK} {Q : Bool → Hp → Prop} (R1 : RelH X.K ct H1 μ1 M1) (h1 : Ok X.K ct RB M1 H1 (truD μ1 (.bl k) μ1) Q W') : Q k H1 := h1.ret R1 rfl
theorem sndT_cmp {op : CmpOp} (F : Fr X ct tb Γ N sc) (hs : isSet b = false) (ha : Snd X ct Γ a A) (hb : Snd X ct Γ b B) : SndT X ct Γ (.Compare a [op] [b] pos) (.val (.cmp (copOf op) A B)) := by
  intro W ρ μ σ H M Q tk E R h
  simp only [evalT, evalE] at h
  refine wt (pt_cmpR pO pE pE (set_marks hs)) ?_
  have assoc : ∀ {α β γ : Type} (r : Res α) (f : α → Mu → Res β) (g : β → Mu → Res γ), (r.bind f).bind g = r.bind fun x μ => (f x μ).bind g := fun r f g => by cases r <;> rfl
  simp only [assoc] at h
  refine ha W ρ μ σ H M _ tk E R (h.step fun d μ1 v H1 M1 e1 R1 r1 h1 => ?_)
  refine hb W ρ μ1 σ H1 M1 _ tk (E.evo e1) R1 (h1.step fun d2 μ2 u H2 M2 e2 R2 r2 h2 => ?_)
  exact cmp_ok (B := fun k H' => ∃ k', V.bl k = .bl k' ∧ Q k' H') F.g.units R2 (r1.evo e2) r2 (h2.step fun k μ3 v3 H3 M3 e3 R3 r3 h3 => by cases r3; exact ⟨_, rfl, Ok.ret (μ := μ3) h3 R3 rfl⟩) fun _ _ q => q
theorem sndT_chn {op op' : CmpOp} (F : Fr X ct tb Γ N sc) (hs : isSet c = false) (ha : Snd X ct Γ a A) (hb : Snd X ct Γ b B) (hc : Snd X ct Γ c C') : SndT X ct Γ (.Compare a [op, op'] [b, c] pos) (.val (.chn (copOf op) (copOf op') A B C')) := by
  intro W ρ μ σ H M Q tk E R h
  unfold evalT at h
  refine wt (pt_chain pO pO pE pE pE (set_last hs)) ?_
  refine chn_tail F (Qv := fun x H' => ∃ k, x = .bl k ∧ Q k H') tk E R ha hb hc ?_
  -- the value is a bool
  have bl : ∀ d μ', evalE Γ (.chn (copOf op) (copOf op') A B C') ρ μ = .ok d μ' → ∃ k, d = .bl k := by
    intro d μ' q
    simp only [evalE] at q
    cases h1 : evalE Γ A ρ μ <;> rw [h1] at q <;> simp only [Res.bind, reduceCtorEq] at q
    rename_i x μ1
    cases h2 : evalE Γ B ρ μ1 <;> rw [h2] at q <;> simp only [reduceCtorEq] at q
    rename_i y μ2
    cases h3 : cmpD (copOf op) x y μ2 <;> rw [h3] at q <;> simp only [reduceCtorEq] at q
    rename_i k μ3
    cases k with
    | false => simp only [Bool.false_eq_true, if_false, Res.ok.injEq] at q; exact ⟨_, q.1.symm⟩
    | true =>
      simp only [if_true] at q
      cases h4 : evalE Γ C' ρ μ3 <;> rw [h4] at q <;> simp only [reduceCtorEq] at q
      rename_i z μ4
      cases h5 : cmpD (copOf op') y z μ4 <;> rw [h5] at q <;> simp only [reduceCtorEq, Res.ok.injEq] at q
      exact ⟨_, q.1.symm⟩
  cases hA : evalE Γ (.chn (copOf op) (copOf op') A B C') ρ μ with
  | stuck => rw [hA] at h; exact h.elim
  | err c fs μ' => rw [hA] at h; exact h
  | ok d μ' =>
    obtain ⟨k, rfl⟩ := bl d μ' hA
    rw [hA] at h
    intro v H' M' e' R' r'
    cases r'
    exact ⟨k, rfl, Ok.ret (μ := μ') (Ok.evo e' h) R' rfl⟩
theorem sndT_not {t : T} (ha : SndT X ct Γ a t) : SndT X ct Γ (.UnaryOp .Not a pos) (.not t) := by
  intro W ρ μ σ H M Q tk E R h
  unfold evalT at h
  refine wt (pt_not pT) ?_
  refine ha W ρ μ σ H M _ tk E R (h.step fun k μ1 v H1 M1 e1 R1 r1 h1 => ?_)
  cases r1
  exact h1.ret R1 rfl
theorem sndT_w {t : T} (ha : SndW X ct Γ e t) : SndT X ct Γ e t := by
  intro W ρ μ σ H M Q tk E R h
  exact wt (pW.pt) (ha W ρ μ σ H M Q tk E R h)
theorem sndW_and1 {t : T} (ha : SndT X ct Γ a t) : SndW X ct Γ (.BoolOp .And [a] pos) t := by
  intro W ρ μ σ H M Q tk E R h
  exact ww (pw_and1 pT) (ha W ρ μ σ H M Q tk E R h)
theorem sndW_or1 {t : T} (ha : SndT X ct Γ a t) : SndW X ct Γ (.BoolOp .Or [a] pos) t := by
  intro W ρ μ σ H M Q tk E R h
  exact ww (pw_or1 pT) (ha W ρ μ σ H M Q tk E R h)
theorem sndW_and {t u : T} {rest : List Expr} (ha : SndT X ct Γ a t) (hb : SndW X ct Γ (.BoolOp .And (b :: rest) pos) u) : SndW X ct Γ (.BoolOp .And (a :: b :: rest) pos) (.and t u) := by
  intro W ρ μ σ H M Q tk E R h
  unfold evalT at h
  refine ww (pw_and pT pW) ?_
  refine ha W ρ μ σ H M _ tk E R (h.step fun k μ1 v H1 M1 e1 R1 r1 h1 => ?_)
  cases r1
  cases k with
  | true => exact hb W ρ μ1 σ H1 M1 _ tk (E.evo e1) R1 h1
  | false => exact h1.ret R1 rfl
theorem sndW_or {t u : T} {rest : List Expr} (ha : SndT X ct Γ a t) (hb : SndW X ct Γ (.BoolOp .Or (b :: rest) pos) u) : SndW X ct Γ (.BoolOp .Or (a :: b :: rest) pos) (.or t u) := by
  intro W ρ μ σ H M Q tk E R h
  unfold evalT at h
  refine ww (pw_or pT pW) ?_
  refine ha W ρ μ σ H M _ tk E R (h.step fun k μ1 v H1 M1 e1 R1 r1 h1 => ?_)
  cases r1
  cases k with
  | true => exact h1.ret R1 rfl
  | false => exact hb W ρ μ1 σ H1 M1 _ tk (E.evo e1) R1 h1
end
end PyI
/-! A9: what is walked; comprehensions. -/
namespace PyI
open PySem L2

/-- the iterator J walks the items -/
structure ItOk (K : PySem.W.Frag) (ct : CTab) (M : AM) (H : Hp) (J : L2.It) (its : Its) : Prop where
  go : ∀ (M' : AM) (H' : Hp) (μ' : Mu) (i : Nat) (d : D), Stay M H M' H' → RelH K ct H' μ' M' → chkOf its.2 μ' = true → its.1[i]? = some d → J.go i H' ∧ ∀ x H'', J.yld i H' x H'' → H'' = H' ∧ Rep K H' M' x d
  stop : ∀ (M' : AM) (H' : Hp) (μ' : Mu), Stay M H M' H' → RelH K ct H' μ' M' → chkOf its.2 μ' = true → J.stop its.1.length H'
abbrev RJ (K : PySem.W.Frag) (ct : CTab) : Hp → AM → L2.It → Its → Prop := fun H M J its => ItOk K ct M H J its
def SndI (X : Cx) (ct : CTab) (Γ : G) (tg e : Expr) (A : IT) : Prop := ∀ (W : WX) (ρ : Rho) (μ : Mu) (σ : St) (H : Hp) (M : AM) (Q : L2.It → Hp → Prop), Takes X W → RelE X.K H M σ ρ → RelH X.K ct H μ M →
  Ok X.K ct (RJ X.K ct) M H (evalIt Γ A ρ μ) Q (fun c d H' => W c d σ H') → wI X tg e σ H Q
section
variable {K : PySem.W.Frag} {ct : CTab} {H : Hp} {M : AM} {a : Addr} {xs : List V} {ds : List D} {μ : Mu}
theorem rd_lst_eq {K : PySem.W.Frag} {H : Hp} {xs ys : List V} (h : Rd H a (.lst xs)) (h' : Rd H a (.lst ys)) : xs = ys := by
  rcases h with h | ⟨o, h⟩ <;> rcases h' with h' | ⟨o', h'⟩ <;> rw [h] at h' <;> cases h' <;> rfl
theorem itok_t (h : TA' K H M a xs) (r : Reps K H M xs ds) : ItOk K ct M H (Itt K a) (ds, none) where
  go := fun M' H' μ' i d e R _ hi => by
    obtain ⟨x, hx, rx⟩ := (r.stay e).get hi
    have sq := (h.stay e).sq
    refine ⟨⟨xs, x, sq, hx⟩, fun y H'' q => ⟨q.1, ?_⟩⟩
    have := q.2 xs sq
    rw [hx] at this; cases this
    exact rx
  stop := fun M' H' μ' e R _ => ⟨xs, (h.stay e).sq, by rw [r.length]; exact Nat.le_refl _⟩
theorem itok_l (h : LA' K H M a xs) (r : Reps K H M xs ds) : ItOk K ct M H (Itl K a) (ds, none) where
  go := fun M' H' μ' i d e R _ hi => by
    obtain ⟨x, hx, rx⟩ := (r.stay e).get hi
    have sq := (h.stay e).sq
    refine ⟨⟨xs, x, sq, hx⟩, fun y H'' q => ⟨q.1, ?_⟩⟩
    have := q.2 xs sq
    rw [hx] at this; cases this
    exact rx
  stop := fun M' H' μ' e R _ => ⟨xs, (h.stay e).sq, by rw [r.length]; exact Nat.le_refl _⟩
theorem itok_r {n : Nat} (ha : M.ix[n]? = some a) : ItOk K ct M H (Itl K a) (ds, some (n, ds)) where
  go := fun M' H' μ' i d e R hc hi => by
    simp only [chkOf] at hc
    split at hc
    · rename_i l' hl
      rw [beqs_eq _ _ hc] at hl
      obtain ⟨ys, h1, r1⟩ := R.lst hl (e.pre _ _ ha)
      obtain ⟨x, hx, rx⟩ := r1.get hi
      have sq : SqL K H' a ys := .inl (.inl h1)
      refine ⟨⟨ys, x, sq, hx⟩, fun y H'' q => ⟨q.1, ?_⟩⟩
      have := q.2 ys sq
      rw [hx] at this; cases this
      exact rx
    · cases hc
  stop := fun M' H' μ' e R hc => by
    simp only [chkOf] at hc
    split at hc
    · rename_i l' hl
      rw [beqs_eq _ _ hc] at hl
      obtain ⟨ys, h1, r1⟩ := R.lst hl (e.pre _ _ ha)
      exact ⟨ys, .inl (.inl h1), by rw [r1.length]; exact Nat.le_refl _⟩
    · cases hc
theorem itok_s (x : Str) : ItOk K ct M H (L2.Its x) (x.cps.toList.map fun c => D.str ⟨#[c]⟩, none) where
  go := fun M' H' μ' i d e R _ hi => by
    simp only [List.getElem?_map, Option.map_eq_some_iff] at hi
    obtain ⟨c, hc, rfl⟩ := hi
    have hc' : x.cps[i]? = some c := by rw [← Array.getElem?_toList]; exact hc
    refine ⟨?_, fun y H'' q => ?_⟩
    · show i < x.cps.size
      rcases Nat.lt_or_ge i x.cps.size with z | z
      · exact z
      · rw [Array.getElem?_eq_none z] at hc'; cases hc'
    · obtain ⟨q1, c', hc2, rfl⟩ := q
      rw [hc'] at hc2; cases hc2
      exact ⟨q1, .str _⟩
  stop := fun M' H' μ' e R _ => by
    show x.cps.size ≤ (x.cps.toList.map fun c => D.str ⟨#[c]⟩).length
    simp
theorem itok_n (lo : Int) (n : Nat) : ItOk K ct M H (Itr lo n) (rngD lo n, none) where
  go := fun M' H' μ' i d e R _ hi => by
    simp only [rngD, List.getElem?_map, Option.map_eq_some_iff] at hi
    obtain ⟨k, hk, rfl⟩ := hi
    have hin : i < n := by
      rcases Nat.lt_or_ge i n with z | z
      · exact z
      · rw [List.getElem?_eq_none (by simpa using z)] at hk; cases hk
    rw [List.getElem?_range hin] at hk; cases hk
    exact ⟨hin, fun y H'' q => ⟨q.1, by rw [q.2]; exact .int _⟩⟩
  stop := fun M' H' μ' e R _ => by
    show n ≤ (rngD lo n).length
    simp [rngD]
end
section
variable {X : Cx} {ct : CTab} {Γ : G} {N : List Str} {sc : Scope} {tb : Tb} {e a b tg : Expr} {A B : E} {pos apos : Pos}
theorem sndI_seq (ha : Snd X ct Γ e A) : SndI X ct Γ tg e (.seq A) := by
  intro W ρ μ σ H M Q tk E R h
  unfold evalIt at h
  cases hA : evalE Γ A ρ μ with
  | stuck => rw [hA] at h; exact h.elim
  | err c fs μ' =>
    refine wi (pi_list pE) (ha W ρ μ σ H M _ tk E R ?_)
    rw [hA] at h ⊢; exact h
  | ok d μ' =>
    have go : ∀ {Q' : VK}, (∀ v H' M', Evo M H M' H' → RelH X.K ct H' μ' M' → Rep X.K H' M' v d → Q' v H') → wE X e σ H Q' := fun k => ha W ρ μ σ H M _ tk E R (by rw [hA]; exact k)
    rw [hA] at h
    have h' : ∀ {H' M'}, Evo M H M' H' → Ok X.K ct (RJ X.K ct) M' H' (itD d μ') Q (fun c d H' => W c d σ H') := fun e' => Ok.evo e' h
    clear h
    cases d with
    | tup l =>
      refine wi (pi_tup pE) (go fun v H' M' e' R' r' => ?_)
      cases r' with
      | tup h1 r1 => exact ⟨_, rfl, ⟨_, h1.sq⟩, Ok.ret (μ := μ') (h' e') R' (itok_t h1 r1)⟩
    | lst l =>
      refine wi (pi_list pE) (go fun v H' M' e' R' r' => ?_)
      cases r' with
      | lst h1 r1 => exact ⟨_, rfl, ⟨_, h1.sq⟩, Ok.ret (μ := μ') (h' e') R' (itok_l h1 r1)⟩
    | ref n =>
      refine wi (pi_list pE) (go fun v H' M' e' R' r' => ?_)
      have h2 := h' e'
      unfold itD at h2
      simp only at h2
      split at h2
      · rename_i l hl
        cases r' with
        | ref hr =>
          obtain ⟨xs, h1, r1⟩ := R'.lst hl hr
          exact ⟨_, rfl, ⟨xs, .inl (.inl h1)⟩, Ok.ret (μ := μ') h2 R' (itok_r hr)⟩
      · exact h2.elim
    | str s =>
      refine wi (pi_str pE) (go fun v H' M' e' R' r' => ?_)
      cases r'
      exact ⟨_, rfl, Ok.ret (μ := μ') (h' e') R' (itok_s s)⟩
    | kl _ => exact (h' (Evo.refl _ _)).elim
    | non => exact (h' (Evo.refl _ _)).elim
    | bl _ => exact (h' (Evo.refl _ _)).elim
    | int _ => exact (h' (Evo.refl _ _)).elim
theorem sndI_rng1 (F : Fr X ct tb Γ N sc) (hg : glB sc "range" = true) (hs : star a = false) (ha : Snd X ct Γ a A) : SndI X ct Γ tg (.Call (.Name "range" apos) [a] [] pos) (.rng1 A) := by
  intro W ρ μ σ H M Q tk E R h
  unfold evalIt at h
  refine wi (pi_range1 (gl_of F hg) (F.g.bi _ (by decide)) (pa_cons pE pa_nil (star_cons hs)) (star_cons hs)) ?_
  refine ha W ρ μ σ H M _ tk E R (h.step fun d μ1 v H1 M1 e1 R1 r1 h1 => ?_)
  split at h1
  · rename_i j
    cases r1
    obtain ⟨hz, h1⟩ := h1.needs
    exact ⟨j, rfl, hz.1, hz.2, h1.ret R1 (itok_n 0 _)⟩
  · exact h1.elim
theorem sndI_rng2 (F : Fr X ct tb Γ N sc) (hg : glB sc "range" = true) (hs : star a = false) (hs2 : star b = false) (ha : Snd X ct Γ a A) (hb : Snd X ct Γ b B) : SndI X ct Γ tg (.Call (.Name "range" apos) [a, b] [] pos) (.rng2 A B) := by
  intro W ρ μ σ H M Q tk E R h
  unfold evalIt at h
  refine wi (pi_range2 (gl_of F hg) (F.g.bi _ (by decide)) (pa_cons pE (pa_cons pE pa_nil (star_cons hs2)) (star_cons hs)) (by rw [star_cons hs, star_cons hs2, star_nil]) (by rw [star_cons hs2, star_nil])) ?_
  refine ha W ρ μ σ H M _ tk E R (h.step fun d μ1 v H1 M1 e1 R1 r1 h1 => ?_)
  refine hb W ρ μ1 σ H1 M1 _ tk (E.evo e1) R1 (h1.step fun d2 μ2 u H2 M2 e2 R2 r2 h2 => ?_)
  split at h2
  · rename_i i j
    cases r1; cases r2
    obtain ⟨hz, h2⟩ := h2.needs
    exact ⟨i, j, rfl, ⟨hz.1.1, hz.1.2, hz.2.1, hz.2.2⟩, h2.ret R2 (itok_n i _)⟩
  · exact h2.elim

/-! ### targets -/
def gNames : List Nat → TGs
  | [] => gNil
  | i :: is => gCons (gName i) (gNames is)
def gOr (t u : TG) : TG := fun v σ H Q => t v σ H Q ∨ u v σ H Q
theorem pg_or {X : Cx} {e : Expr} {t u : TG} (h : PG X e t) (k : PG X e u) : PG X e (gOr t u) := ⟨fun pins s σ H v w Q I r q => q.elim (h.run pins s σ H v w Q I r) (k.run pins s σ H v w Q I r)⟩
def gOf (K : PySem.W.Frag) : Tg → TG
  | .nm i => gName i
  | .tp l => gOr (gTup K l.length (gNames l)) (gUnl K l.length (gNames l))
def FnLoc (X : Cx) (sc : Scope) (loc : List Str) : Prop := ∀ x ∈ loc, Loc sc x ∧ (X.fn x = true ∨ sc.names.lookup x = some .local)
theorem pg_nm {loc : List Str} {x : Str} {i : Nat} (F : Fr X ct tb Γ N sc) (L : FnLoc X sc loc) (hx : x ∈ loc) (hi : N[i]? = some x) : PG X (.Name x pos) (gName i) :=
  pg_name (by rw [F.hN]; exact F.nd) (by rw [F.hN]; exact hi) (by rw [F.hsc]; exact (L x hx).1) (by rw [F.hsc]; exact (L x hx).2)
theorem names_ok {loc : List Str} (F : Fr X ct tb Γ N sc) (L : FnLoc X sc loc) : ∀ {es : List Expr} {l : List Nat}, resNames N loc es = some l → PGs X es (gNames l) ∧ (assignEach es X.env).length = l.length ∧ (assignEach es X.env).findIdx? (·.1) = none
  | [], l, h => by cases h; exact ⟨pgs_nil, rfl, rfl⟩
  | e :: es, l, h => by
    unfold resNames at h
    split at h
    · rename_i q; cases q
    · rename_i x p es' he
      cases he
      obtain ⟨hx, h⟩ := guardO_some h
      obtain ⟨i, hi, h⟩ := Option.bind_eq_some_iff.mp h
      obtain ⟨l', hl, rfl⟩ := Option.map_eq_some_iff.mp h
      obtain ⟨p1, p2, p3⟩ := names_ok F L hl
      refine ⟨pgs_cons (pg_nm F L (of_decide_eq_true hx) (ixOf_get hi)) p1 rfl, ?_, ?_⟩
      · show (assignEach es X.env).length + 1 = l'.length + 1
        rw [p2]
      · show List.findIdx? (·.1) ((false, assign (.Name x p) X.env) :: assignEach es X.env) = none
        rw [List.findIdx?_cons, p3]; rfl
    · cases h
theorem tg_ok {loc : List Str} {t : Tg} (F : Fr X ct tb Γ N sc) (L : FnLoc X sc loc) (h : resTg N loc tg = some t) : PG X tg (gOf X.K t) := by
  unfold resTg at h
  split at h
  · obtain ⟨hx, h⟩ := guardO_some h
    obtain ⟨i, hi, rfl⟩ := Option.map_eq_some_iff.mp h
    exact pg_nm F L (of_decide_eq_true hx) (ixOf_get hi)
  · obtain ⟨l, hl, rfl⟩ := Option.map_eq_some_iff.mp h
    obtain ⟨p1, p2, p3⟩ := names_ok F L hl
    exact pg_or (pg_tup F.calm p1 p2 p3) (pg_unl F.calm p1 p2 p3)
  · cases h
end
section
variable {K : PySem.W.Frag} {H : Hp} {M : AM} {Q : St → Hp → Prop}
theorem gnames_ok : ∀ {l : List Nat} {vs : List V} {ds : List D} {σ : St} {ρ : Rho}, ds.length = l.length → Reps K H M vs ds → RelE K H M σ ρ →
    (∀ σ', RelE K H M σ' ((l.zip ds).foldl (fun ρ p => ρ.set p.1 (some p.2)) ρ) → (∀ own, (∀ i ∈ l, i ∈ own) → wipe σ' own = wipe σ own) → Q σ' H) → gNames l vs σ H Q
  | [], vs, ds, σ, ρ, hl, r, E, k => by
    cases r with
    | nil => exact ⟨rfl, k σ E fun _ _ => rfl⟩
    | cons => cases hl
  | i :: l, vs, ds, σ, ρ, hl, r, E, k => by
    cases r with
    | nil => cases hl
    | cons h r =>
      rename_i v vs d ds
      refine ⟨v, vs, rfl, ?_⟩
      refine gnames_ok (l := l) (ρ := ρ.set i (some d)) (Nat.succ.inj hl) r (E.set h i) fun σ' E' hw => k σ' E' fun own ho => ?_
      rw [hw own fun j hj => ho j (List.mem_cons_of_mem _ hj), wipe_set (ho i (List.mem_cons_self ..))]
theorem assign_ok {t : Tg} {v : V} {d : D} {σ : St} {ρ ρ' : Rho} (r : Rep K H M v d) (E : RelE K H M σ ρ) (h : assignT t d ρ = some ρ')
    (k : ∀ σ', RelE K H M σ' ρ' → (∀ own, (∀ i ∈ slotsOf t, i ∈ own) → wipe σ' own = wipe σ own) → Q σ' H) : gOf K t v σ H Q := by
  unfold assignT at h
  split at h
  · cases h
    exact k _ (E.set r _) fun own ho => wipe_set (ho _ (List.mem_singleton_self _))
  · split at h
    · split at h
      · rename_i hl
        cases h
        cases r with
        | tup h1 r1 => exact .inl ⟨_, _, rfl, h1.sq, by rw [r1.length]; exact hl, gnames_ok hl r1 E k⟩
      · cases h
    · split at h
      · rename_i hl
        cases h
        cases r with
        | lst h1 r1 => exact .inr ⟨_, _, rfl, h1.sq, by rw [r1.length]; exact hl, gnames_ok hl r1 E k⟩
      · cases h
    · cases h
end
end PyI
/-! A10: comprehensions; the resolver is sound for expressions. -/
namespace PyI
open PySem L2
section
variable {K : PySem.W.Frag} {ct : CTab} {H H1 H' : Hp} {M M1 M' : AM} {p : Addr} {o : HO}
theorem Evo.stayHide (e : Evo M H M' H') (hp : H p = none) : Stay M H (M'.hide p) H' := ⟨e.pre, fun a o h n => ⟨(e.keep a o h n.1).1, (e.keep a o h n.1).2, by
  show a ∉ p :: M'.ex
  rw [List.mem_cons, e.ex]
  rintro (q | q)
  · exact ne_of_none h hp q
  · exact n.2 q⟩⟩
theorem Evo.newEx (e : Evo M H M' H') (hp : H p = none) : Evo M H M' (upd H' p o) := ⟨e.pre, e.len, e.ex, fun a u h n => ⟨by rw [upd_ne (ne_of_none h hp)]; exact (e.keep a u h n).1, (e.keep a u h n).2⟩⟩
end
theorem wipe_at {τ : St} {k : Nat} : ∀ {vs : List Nat}, k ∈ vs → k < τ.length → (L2.wipe τ vs)[k]? = some none
  | [], h, _ => by cases h
  | j :: js, hk, hl => by
    unfold L2.wipe
    rw [List.getElem?_set]
    by_cases e : j = k
    · rw [if_pos e, if_pos (by rw [wipe_length, e]; exact hl)]
    · rw [if_neg e]
      rcases List.mem_cons.mp hk with z | z
      · exact absurd z.symm e
      · exact wipe_at z hl
theorem wipe_wipe {σ : St} {vs : List Nat} : L2.wipe (L2.wipe σ vs) vs = L2.wipe σ vs := by
  apply List.ext_getElem?
  intro k
  by_cases hk : k ∈ vs
  · rcases Nat.lt_or_ge k σ.length with z | z
    · rw [wipe_at hk z, wipe_at hk (by rw [wipe_length]; exact z)]
    · rw [List.getElem?_eq_none (by rw [wipe_length, wipe_length]; exact z), List.getElem?_eq_none (by rw [wipe_length]; exact z)]
  · rw [L2.wipe_out hk]
/-- the block of a comprehension, as a frame -/
theorem Fr.blk {X : Cx} {ct : CTab} {Γ : G} {N : List Str} {sc scope : Scope} {tb : Tb} {own : List (Str × Nat)} (F : Fr X ct tb Γ N sc) (ok : BlkOk N sc scope own) (s : Shared) (H : Hp) (C : Addr) (cl : List (Str × Addr)) (fp : List Addr) :
    Fr (X.blk s H scope (compEnvC scope cl C X.env) fp) ct tb Γ N (relS scope sc) where
  hN := F.hN
  hsc := by show relS scope X.env.scope = _; rw [F.hsc]
  nd := F.nd
  calm := F.calm
  kindF := ok.kind
  g := F.g
theorem lookup_mem {α : Type} : ∀ {l : List (Str × α)} {x : Str} {k : α}, (x, k) ∈ l → (∀ y ∈ l, l.lookup y.1 = some y.2) → l.lookup x = some k := fun h hu => hu _ h
theorem own_loc {X : Cx} {N : List Str} {sc scope : Scope} (ok : BlkOk N sc scope (ownOf N scope)) (s : Shared) (H : Hp) (C : Addr) (cl : List (Str × Addr)) (fp : List Addr) :
    FnLoc (X.blk s H scope (compEnvC scope cl C X.env) fp) (relS scope sc) ((ownOf N scope).map Prod.fst) := by
  intro x hx
  obtain ⟨⟨y, i⟩, hp, rfl⟩ := List.mem_map.mp hx
  unfold ownOf at hp
  obtain ⟨⟨z, k⟩, hz, e⟩ := List.mem_filterMap.mp hp
  have hu := ok.uniq _ hz
  cases k with
  | «local» =>
    obtain ⟨j, _, e'⟩ := Option.map_eq_some_iff.mp e
    cases e'
    have q : (relS scope sc).names.lookup z = some .local := lookup_relS_keep (by intro w; cases w) hu
    exact ⟨.inl q, .inr q⟩
  | cell =>
    obtain ⟨j, _, e'⟩ := Option.map_eq_some_iff.mp e
    cases e'
    have q : (relS scope sc).names.lookup z = some .cell := lookup_relS_keep (by intro w; cases w) hu
    refine ⟨.inr q, .inl ?_⟩
    show (scope.names.lookup z == some .cell) = true
    rw [hu]; rfl
  | free => cases e
  | globalExplicit => cases e
  | globalImplicit => cases e
section
variable {X : Cx} {ct : CTab} {Γ : G} {N : List Str} {sc scope : Scope} {tb : Tb} {elt tg iter : Expr} {ifs : List Expr} {A : E} {pos : Pos}
/-- for each block -/
def SndB (X : Cx) (ct : CTab) (Γ : G) (scope : Scope) (e : Expr) (A : E) : Prop := ∀ (s : Shared) (H : Hp) (C : Addr) (cl : List (Str × Addr)) (fp : List Addr), Snd (X.blk s H scope (compEnvC scope cl C X.env) fp) ct Γ e A
def SndTB (X : Cx) (ct : CTab) (Γ : G) (scope : Scope) (ifs : List Expr) (c : T) : Prop := (ifs = [] ∧ c = .yes) ∨ ∃ e, ifs = [e] ∧ ∀ (s : Shared) (H : Hp) (C : Addr) (cl : List (Str × Addr)) (fp : List Addr), SndT (X.blk s H scope (compEnvC scope cl C X.env) fp) ct Γ e c
def wEB (X : Cx) (scope : Scope) (e : Expr) : TE := fun σ H Q => ∀ s H0 C cl fp, wE (X.blk s H0 scope (compEnvC scope cl C X.env) fp) e σ H Q
def wTB (X : Cx) (scope : Scope) : List Expr → TT
  | [e] => fun σ H Q => ∀ s H0 C cl fp, wT (X.blk s H0 scope (compEnvC scope cl C X.env) fp) e σ H Q
  | _ => tYes
/-- a new list is handed on, kept out of the data so far -/
def OkN (K : PySem.W.Frag) (ct : CTab) (M : AM) (H : Hp) (r : Res PyI.D) (Q : VK) (W : XK) : Prop := match r with
  | .ok (.lst acc) μ2 => ∀ p H2 M2 accv, H p = none → Evo M H M2 H2 → RelH K ct H2 μ2 (M2.hide p) → H2 p = some (.lst accv) → Reps K H2 (M2.hide p) accv acc → Q (.ref p) H2
  | .ok _ _ => False
  | .err c fs μ' => ∀ cls d H' M', Evo M H M' H' → RelH K ct H' μ' M' → ErrRep K ct H' M' c fs cls d → W cls d H'
  | .stuck => False
theorem Evo.back {K : PySem.W.Frag} {ct : CTab} {H H' : Hp} {M M' : AM} {μ μ' : Mu} {p : Addr} (e : Evo M H M' H') (R : RelH K ct H μ M) (R' : RelH K ct H' μ' M') (h : H' p = none) : H p = none := by
  cases q : H p with
  | none => rfl
  | some o =>
    by_cases z : p ∈ M.ix
    · obtain ⟨n, hn, en⟩ := List.getElem_of_mem z
      have : M.ix[n]? = some p := by rw [List.getElem?_eq_getElem hn, en]
      exact absurd (List.mem_of_getElem? (e.pre n p this)) (R'.fresh h).1
    · rw [(e.keep p o q z).1] at h; cases h
theorem OkN.evo {K : PySem.W.Frag} {ct : CTab} {H H1 : Hp} {M M1 : AM} {μ μ1 : Mu} {r : Res PyI.D} {Q : VK} {W : XK} (e : Evo M H M1 H1) (R : RelH K ct H μ M) (R1 : RelH K ct H1 μ1 M1) (h : OkN K ct M H r Q W) : OkN K ct M1 H1 r Q W := by
  cases r with
  | stuck => exact h
  | err c fs μ' => exact fun cls d H' M' e' => h cls d H' M' (e.trans e')
  | ok d μ2 =>
    cases d with
    | lst acc => exact fun p H2 M2 accv hp e2 => h p H2 M2 accv (e.back R R1 hp) (e.trans e2)
    | _ => exact h
theorem Ok.toN {K : PySem.W.Frag} {ct : CTab} {H : Hp} {M : AM} {μ : Mu} {r : Res PyI.D} {Q : VK} {W : XK} (R : RelH K ct H μ M) (hl : ∀ d μ', r = .ok d μ' → ∃ l, d = .lst l) (h : Ok K ct (RD K) M H r Q W) : OkN K ct M H r Q W := by
  cases r with
  | stuck => exact h
  | err c fs μ' => exact h
  | ok d μ2 =>
    obtain ⟨l, rfl⟩ := hl d μ2 rfl
    intro p H2 M2 accv hp e2 R2 hp2 ra
    have hout : M2.out p := ⟨(R2.exs p (List.mem_cons_self ..)).2, by rw [e2.ex]; exact (R.fresh hp).2⟩
    exact h (.ref p) H2 M2 e2 R2.unhide (.lst ⟨.inl hp2, hout⟩ (ra.stay Stay.unhide))
theorem comp_noerr {f : D → Mu → Res (Option D)} {chk : Mu → Bool} : ∀ {ds acc : List D} {μ μ' : Mu} {c : Nat} {fs : List D}, compLoop f chk acc ds μ ≠ .err c fs μ'
  | [], acc, μ, μ', c, fs, h => by unfold compLoop at h; split at h <;> cases h
  | d :: ds, acc, μ, μ', c, fs, h => by
    unfold compLoop at h
    split at h
    · split at h
      · exact comp_noerr h
      · unfold needs at h
        split at h
        · exact comp_noerr h
        · cases h
      · cases h
    · cases h
theorem comp_core {W : WX} {ρ : Rho} {μ : Mu} {σ : St} {H : Hp} {M : AM} {Q : VK} {t : Tg} {it : IT} {c : T} (F : Fr X ct tb Γ N sc) (ok : BlkOk N sc scope (ownOf N scope)) (hset : isSet iter = false) (ht : resTg N ((ownOf N scope).map Prod.fst) tg = some t) (hsl : ∀ i ∈ slotsOf t, i ∈ (ownOf N scope).map Prod.snd)
    (hI : SndI X ct Γ tg iter it) (hc : SndTB X ct Γ scope ifs c) (he : SndB X ct Γ scope elt A) (tk : Takes X W) (E : RelE X.K H M σ ρ) (R : RelH X.K ct H μ M) (h : OkN X.K ct M H (evalE Γ (.comp ((ownOf N scope).map Prod.snd) t it c A) ρ μ) Q (fun c d H' => W c d σ H')) :
    tLc (wI X tg iter) (gOf X.K t) (wTB X scope ifs) (wEB X scope elt) ((ownOf N scope).map (·.2)) σ H Q := by
  unfold evalE at h
  have okI : Ok X.K ct (RJ X.K ct) M H (evalIt Γ it ρ μ) (fun J H1 => ∀ D, H1 D = none → ∃ W' : Nat → Nat → Hp → Prop, (∃ m, W' 0 m (upd H1 D (.lst []))) ∧ ∀ i m H, W' i m H →
  (J.stop i H ∧ Q (.ref D) H) ∨ (J.go i H ∧ ∃ Nx : Hp → Prop, (∀ H', Nx H' → ∃ m', m' < m ∧ W' (i + 1) m' H') ∧ ∀ x H', J.yld i H x H' → (gOf X.K t) x (wipe σ ((ownOf N scope).map (·.2))) H' fun σ2 H2 => wipe σ2 ((ownOf N scope).map (·.2)) = wipe σ ((ownOf N scope).map (·.2)) ∧ (wTB X scope ifs) σ2 H2 fun b H3 =>
    if b = true then (wEB X scope elt) σ2 H3 fun y H4 => ∃ acc, H4 D = some (.lst acc) ∧ acc.length < sizeLine ∧ Nx (upd H4 D (.lst (acc ++ [y]))) else Nx H3)) (fun c d H' => W c d σ H') := ?okI
  exact hI W ρ μ σ H M _ tk E R okI
  case okI =>
  cases hit : evalIt Γ it ρ μ with
  | stuck => rw [hit] at h; exact h.elim
  | err c fs μ' => rw [hit] at h; exact h
  | ok its μ1 =>
  rw [hit] at h
  intro J H1 M1 e1 R1 J1
  have h1 := OkN.evo e1 R R1 (show OkN X.K ct M H ((compLoop _ (chkOf its.2) [] its.1 μ1).bind fun l μ => .ok (.lst l) μ) Q _ from h)
  intro D hD
  have E1 := E.evo e1
  -- the loop's answer
  generalize hf : (fun (d : PyI.D) (μ : Mu) => match assignT t d (wipeR ρ ((ownOf N scope).map Prod.snd)) with
        | none => Res.stuck
        | some ρ' => (evalT Γ c ρ' μ).bind fun k μ => if k = true then (evalE Γ A ρ' μ).bind fun y μ => Res.ok (some y) μ else Res.ok none μ) = f at h1
  obtain ⟨ds, src⟩ := its
  generalize hr : compLoop f (chkOf src) [] ds μ1 = r at h1
  have hr0 : ∀ c fs μ', r ≠ .err c fs μ' := fun c fs μ' q => comp_noerr (hr.trans q)
  refine ⟨fun i m H2 => m = ds.length - i ∧ i ≤ ds.length ∧ ∃ (M2 : AM) (μ2 : Mu) (acc : List PyI.D) (accv : List V), Evo M1 H1 M2 H2 ∧ RelH X.K ct H2 μ2 (M2.hide D) ∧ H2 D = some (.lst accv) ∧ Reps X.K H2 (M2.hide D) accv acc ∧ compLoop f (chkOf src) acc (ds.drop i) μ2 = r, ⟨ds.length, rfl, Nat.zero_le _, M1, μ1, [], [], Evo.new hD, R1.hide hD, upd_same, .nil, by rw [List.drop_zero]; exact hr⟩, ?_⟩
  rintro i m H2 ⟨hm, hi, M2, μ2, acc, accv, e2, R2, hD2, ra, hloop⟩
  have st2 : Stay M1 H1 (M2.hide D) H2 := e2.stayHide hD
  rcases Nat.lt_or_ge i ds.length with hlt | hge
  · right
    have hdi : ds[i]? = some ds[i] := List.getElem?_eq_getElem hlt
    rw [List.drop_eq_getElem_cons hlt] at hloop
    unfold compLoop at hloop
    by_cases hck : chkOf src μ2 = true
    · rw [if_pos hck] at hloop
      obtain ⟨hgo, hy⟩ := J1.go (M2.hide D) H2 μ2 i ds[i] st2 R2 hck hdi
      refine ⟨hgo, fun H3 => ∃ m', m' < m ∧ (m' = ds.length - (i + 1) ∧ i + 1 ≤ ds.length ∧ ∃ (M2 : AM) (μ2 : Mu) (acc : List PyI.D) (accv : List V), Evo M1 H1 M2 H3 ∧ RelH X.K ct H3 μ2 (M2.hide D) ∧ H3 D = some (.lst accv) ∧ Reps X.K H3 (M2.hide D) accv acc ∧ compLoop f (chkOf src) acc (ds.drop (i + 1)) μ2 = r), fun H3 q => q, ?_⟩
      intro x H3 hx
      obtain ⟨rfl, rx⟩ := hy x H3 hx
      -- the target
      have Ew : RelE X.K H3 (M2.hide D) (wipe σ ((ownOf N scope).map Prod.snd)) (wipeR ρ ((ownOf N scope).map Prod.snd)) := (E1.stay st2).wipe _
      have hfd : f ds[i] μ2 = (match assignT t ds[i] (wipeR ρ ((ownOf N scope).map Prod.snd)) with
        | none => Res.stuck
        | some ρ' => (evalT Γ c ρ' μ2).bind fun k μ => if k = true then (evalE Γ A ρ' μ).bind fun y μ => Res.ok (some y) μ else Res.ok none μ) := by rw [← hf]
      rw [hfd] at hloop
      cases has : assignT t ds[i] (wipeR ρ ((ownOf N scope).map Prod.snd)) with
      | none => simp only [has] at hloop; rw [← hloop] at h1; exact (h1 : False).elim
      | some ρ' =>
        simp only [has] at hloop
        refine assign_ok rx Ew has fun σ2 E2 hw => ⟨?_, ?_⟩
        · rw [hw _ hsl]
          exact wipe_wipe
        -- the test
        have hT : ∀ (Q2 : Bool → Hp → Prop), (∀ k μ3, evalT Γ c ρ' μ2 = .ok k μ3 → ∀ H4 M4, Evo (M2.hide D) H3 M4 H4 → RelH X.K ct H4 μ3 M4 → Q2 k H4) → wTB X scope ifs σ2 H3 Q2 := by
          intro Q2 k2
          have okT : Ok X.K ct RB (M2.hide D) H3 (evalT Γ c ρ' μ2) Q2 (fun _ _ _ => False) := by
            cases hc2 : evalT Γ c ρ' μ2 with
            | stuck => rw [hc2] at hloop; simp only [Res.bind] at hloop; rw [← hloop] at h1; exact (h1 : False).elim
            | err _ _ _ => rw [hc2] at hloop; simp only [Res.bind] at hloop; rw [← hloop] at h1; exact (h1 : False).elim
            | ok k μ3 => exact fun v H4 M4 e4 R4 r4 => by cases r4; exact k2 _ μ3 hc2 H4 M4 e4 R4
          rcases hc with ⟨rfl, rfl⟩ | ⟨e, rfl, hcs⟩
          · exact Ok.ret (μ := μ2) okT R2 rfl
          · exact fun s H0 C cl fp => hcs s H0 C cl fp (fun _ _ _ _ => False) ρ' μ2 σ2 H3 (M2.hide D) Q2 takes0 E2 R2 okT
        refine hT _ fun k μ3 hk H4 M4 e4 R4 => ?_
        rw [hk] at hloop
        simp only [Res.bind] at hloop
        -- the block's addresses
        have split4 : ∃ M4', M4 = AM.hide M4' D := ⟨⟨M4.ix, M2.ex⟩, by cases M4; exact congrArg _ e4.ex⟩
        obtain ⟨M4', rfl⟩ := split4
        have e14 : Evo M1 H1 M4' H4 := e2.trans e4.unhide
        have hD4 : H4 D = some (.lst accv) := (e4.keep D _ hD2 (R2.exs D (List.mem_cons_self ..)).2).1
        cases k with
        | false =>
          simp only [Bool.false_eq_true, if_false] at hloop ⊢
          exact ⟨ds.length - (i + 1), by omega, rfl, hlt, M4', μ3, acc, accv, e14, R4, hD4, ra.evo e4, hloop⟩
        | true =>
          simp only [if_true] at hloop ⊢
          have okE : Ok X.K ct (RD X.K) (AM.hide M4' D) H4 (evalE Γ A ρ' μ3) (fun y H5 => ∃ acc, H5 D = some (.lst acc) ∧ acc.length < sizeLine ∧ ∃ m', m' < m ∧ (m' = ds.length - (i + 1) ∧ i + 1 ≤ ds.length ∧ ∃ (M2 : AM) (μ2 : Mu) (acc' : List PyI.D) (accv : List V), Evo M1 H1 M2 (upd H5 D (.lst (acc ++ [y]))) ∧ RelH X.K ct (upd H5 D (.lst (acc ++ [y]))) μ2 (M2.hide D) ∧ (upd H5 D (.lst (acc ++ [y]))) D = some (.lst accv) ∧ Reps X.K (upd H5 D (.lst (acc ++ [y]))) (M2.hide D) accv acc' ∧ compLoop f (chkOf src) acc' (ds.drop (i + 1)) μ2 = r)) (fun _ _ _ => False) := by
            cases hA : evalE Γ A ρ' μ3 with
            | stuck => rw [hA] at hloop; simp only [Res.bind] at hloop; rw [← hloop] at h1; exact (h1 : False).elim
            | err _ _ _ => rw [hA] at hloop; simp only [Res.bind] at hloop; rw [← hloop] at h1; exact (h1 : False).elim
            | ok y μ5 =>
              rw [hA] at hloop
              simp only [Res.bind] at hloop
              intro v H5 M5 e5 R5 r5
              have split5 : ∃ M5', M5 = AM.hide M5' D := ⟨⟨M5.ix, M4'.ex⟩, by cases M5; exact congrArg _ e5.ex⟩
              obtain ⟨M5', rfl⟩ := split5
              have hD5 : H5 D = some (.lst accv) := (e5.keep D _ hD4 (R4.exs D (List.mem_cons_self ..)).2).1
              have hacc : accv.length = acc.length := ra.length
              unfold needs at hloop
              by_cases hz : acc.length < 16777216
              · rw [if_pos hz] at hloop
                have hin : D ∈ (AM.hide M5' D).ex := List.mem_cons_self ..
                have sm : Stay (AM.hide M5' D) H5 (AM.hide M5' D) (upd H5 D (.lst (accv ++ [v]))) := Stay.mutEx hin
                exact ⟨accv, hD5, sl16' (by rw [hacc]; exact hz), ds.length - (i + 1), by omega, rfl, hlt, M5', μ5, acc ++ [y], accv ++ [v], (e14.trans e5.unhide).newEx hD, R5.mutEx hin, upd_same, ((((ra.evo e4).evo e5).append (Reps.one r5)).stay sm), hloop⟩
              · rw [if_neg hz] at hloop; rw [← hloop] at h1; exact (h1 : False).elim
          exact fun s H0 C cl fp => he s H0 C cl fp (fun _ _ _ _ => False) ρ' μ3 σ2 H4 (AM.hide M4' D) _ takes0 (E2.evo e4) R4 okE
    · rw [if_neg hck] at hloop; rw [← hloop] at h1; exact (h1 : False).elim
  · left
    have hie : i = ds.length := Nat.le_antisymm hi hge
    subst hie
    rw [List.drop_length] at hloop
    unfold compLoop at hloop
    by_cases hck : chkOf src μ2 = true
    · rw [if_pos hck] at hloop
      refine ⟨J1.stop (M2.hide D) H2 μ2 st2 R2 hck, ?_⟩
      rw [← hloop] at h1
      exact h1 D H2 M2 accv hD e2 R2 hD2 ra
    · rw [if_neg hck] at hloop; rw [← hloop] at h1; exact (h1 : False).elim
theorem comp_pts {c : T} (hc : SndTB X ct Γ scope ifs c) : ∀ (s : Shared) (H : Hp) (C : Addr) (cl : List (Str × Addr)) (fp : List Addr), PTs (X.blk s H scope (compEnvC scope cl C X.env) fp) ifs (wTB X scope ifs) := by
  intro s H C cl fp
  rcases hc with ⟨rfl, _⟩ | ⟨e, rfl, _⟩
  · exact pts_nil
  · refine pts_one ⟨fun pins s' σ H' Q' I q => q s H C cl fp pins s' I⟩
theorem comp_lst {own : List Nat} {t : Tg} {it : IT} {c : T} {ρ : Rho} {μ : Mu} {d : PyI.D} {μ' : Mu} (h : evalE Γ (.comp own t it c A) ρ μ = .ok d μ') : ∃ l, d = .lst l := by
  unfold evalE at h
  cases hit : evalIt Γ it ρ μ with
  | stuck => rw [hit] at h; cases h
  | err c fs μ' => rw [hit] at h; cases h
  | ok its μ1 =>
    rw [hit] at h
    simp only [Res.bind] at h
    split at h
    · cases h; exact ⟨_, rfl⟩
    · cases h
    · cases h
theorem snd_comp {t : Tg} {it : IT} {c : T} (F : Fr X ct tb Γ N sc) (ok : BlkOk N sc scope (ownOf N scope)) (hset : isSet iter = false) (ht : resTg N ((ownOf N scope).map Prod.fst) tg = some t) (hsl : ∀ i ∈ slotsOf t, i ∈ (ownOf N scope).map Prod.snd)
    (hI : SndI X ct Γ tg iter it) (hc : SndTB X ct Γ scope ifs c) (he : SndB X ct Γ scope elt A) : Snd X ct Γ (.ListComp elt [⟨tg, iter, ifs, 0⟩] scope pos) (.comp ((ownOf N scope).map Prod.snd) t it c A) := by
  intro W ρ μ σ H M Q tk E R h
  have okX : BlkOk X.N X.env.scope scope (ownOf N scope) := by rw [F.hN, F.hsc]; exact ok
  exact we (pe_lc (te := wEB X scope elt) (tt := wTB X scope ifs) (g := gOf X.K t) F.calm (by rw [F.hN]; exact F.nd) pI okX (fun s H C cl fp => tg_ok (F.blk ok s H C cl fp) (own_loc ok s H C cl fp) ht) (comp_pts hc) (fun s H C cl fp => ⟨fun pins s' σ H' Q' I q => q s H C cl fp pins s' I⟩) (set_iter hset))
    (comp_core F ok hset ht hsl hI hc he tk E R (h.toN R fun d μ' q => comp_lst q))
end
end PyI
/-! A11: the resolver is sound for expressions. -/
namespace PyI
open PySem L2
structure SndAt (ct : CTab) (Γ : G) (C : RC) (n : Nat) : Prop where
  e : ∀ (X : Cx) (sc : Scope) (e : Expr) (A : E), Fr X ct C.tb Γ C.N sc → resE n C sc e = some A → Snd X ct Γ e A
  and : ∀ (X : Cx) (sc : Scope) (es : List Expr) (pos : Pos) (A : E), Fr X ct C.tb Γ C.N sc → resAnd n C sc es = some A → Snd X ct Γ (.BoolOp .And es pos) A
  or : ∀ (X : Cx) (sc : Scope) (es : List Expr) (pos : Pos) (A : E), Fr X ct C.tb Γ C.N sc → resOr n C sc es = some A → Snd X ct Γ (.BoolOp .Or es pos) A
  es : ∀ (X : Cx) (sc : Scope) (es : List Expr) (A : Es), Fr X ct C.tb Γ C.N sc → resEs n C sc es = some A → SndA X ct Γ es A ∧ es.all (fun e => !star e) = true ∧ (es = [] → A = .nil)
  l : ∀ (X : Cx) (sc : Scope) (es : List Expr) (A : Es), Fr X ct C.tb Γ C.N sc → resEs n C sc es = some A → SndL X ct Γ es A
  o : ∀ (X : Cx) (sc : Scope) (o : Option Expr) (A : O), Fr X ct C.tb Γ C.N sc → resO n C sc o = some A → SndO X ct Γ o A
  t : ∀ (X : Cx) (sc : Scope) (e : Expr) (A : T), Fr X ct C.tb Γ C.N sc → resT n C sc e = some A → SndT X ct Γ e A
  tand : ∀ (X : Cx) (sc : Scope) (es : List Expr) (pos : Pos) (A : T), Fr X ct C.tb Γ C.N sc → resTAnd n C sc es = some A → SndW X ct Γ (.BoolOp .And es pos) A
  tor : ∀ (X : Cx) (sc : Scope) (es : List Expr) (pos : Pos) (A : T), Fr X ct C.tb Γ C.N sc → resTOr n C sc es = some A → SndW X ct Γ (.BoolOp .Or es pos) A
  i : ∀ (X : Cx) (sc : Scope) (tg e : Expr) (A : IT), Fr X ct C.tb Γ C.N sc → resI n C sc e = some A → SndI X ct Γ tg e A
theorem pe_or1 {X : Cx} {op : BoolOp} {a : Expr} {pos : Pos} {ct : CTab} {Γ : G} {A : E} (h : Snd X ct Γ a A) : Snd X ct Γ (.BoolOp op [a] pos) A := by
  intro W ρ μ σ H M Q tk E R k
  exact we (pe_one pE) (h W ρ μ σ H M Q tk E R k)
theorem sndAt (ct : CTab) (Γ : G) (C : RC) : ∀ n, SndAt ct Γ C n
  | 0 => by constructor <;> intros <;> rename_i h <;> first | (unfold resE at h; cases h) | (unfold resAnd at h; cases h) | (unfold resOr at h; cases h) | (unfold resEs at h; cases h) | (unfold resO at h; cases h) | (unfold resT at h; cases h) | (unfold resTAnd at h; cases h) | (unfold resTOr at h; cases h) | (unfold resI at h; cases h)
  | n + 1 => by
    have ih := sndAt ct Γ C n
    constructor
    case e =>
      intro X sc e A F h
      unfold resE at h
      split at h
      · cases h; exact snd_cst pe_int fun _ _ => .int _
      · cases h; exact snd_cst pe_bl fun _ _ => .bl _
      · cases h; exact snd_cst pe_non fun _ _ => .non
      · cases h; exact snd_cst pe_str fun _ _ => .str _
      · obtain ⟨hd, h⟩ := guardO_some h
        split at h
        · rename_i hv
          obtain ⟨i, hi, rfl⟩ := Option.map_eq_some_iff.mp h
          exact snd_var F (ixOf_get hi) hv hd
        · obtain ⟨hg, h⟩ := guardO_some h
          obtain ⟨i, hi, rfl⟩ := Option.map_eq_some_iff.mp h
          exact snd_glob F (ixOf_get hi) hg hd
      · obtain ⟨o, ho, h⟩ := Option.bind_eq_some_iff.mp h
        obtain ⟨A1, hA, h⟩ := Option.bind_eq_some_iff.mp h
        obtain ⟨B1, hB, rfl⟩ := Option.map_eq_some_iff.mp h
        exact snd_bin ho (ih.e X sc _ _ F hA) (ih.e X sc _ _ F hB)
      · obtain ⟨A1, hA, rfl⟩ := Option.map_eq_some_iff.mp h
        exact snd_neg (ih.e X sc _ _ F hA)
      · obtain ⟨A1, hA, rfl⟩ := Option.map_eq_some_iff.mp h
        exact snd_inv (ih.e X sc _ _ F hA)
      · obtain ⟨A1, hA, rfl⟩ := Option.map_eq_some_iff.mp h
        exact snd_notv (ih.e X sc _ _ F hA)
      · exact ih.and X sc _ _ _ F h
      · exact ih.or X sc _ _ _ F h
      · split at h
        · next g hg =>
          obtain ⟨x, p2, he, h1, h2, h3⟩ := dicOf_eq hg
          obtain ⟨neg, hn, h⟩ := Option.bind_eq_some_iff.mp h
          obtain ⟨A1, hA, rfl⟩ := Option.map_eq_some_iff.mp h
          rw [he, inOp_eq hn]
          exact snd_gin F h1 h2 h3 (ih.e X sc _ _ F hA)
        obtain ⟨hs, h⟩ := guardO_some h
        obtain ⟨A1, hA, h⟩ := Option.bind_eq_some_iff.mp h
        obtain ⟨B1, hB, rfl⟩ := Option.map_eq_some_iff.mp h
        exact snd_cmp F (by simpa using hs) (ih.e X sc _ _ F hA) (ih.e X sc _ _ F hB)
      · obtain ⟨hs, h⟩ := guardO_some h
        obtain ⟨A1, hA, h⟩ := Option.bind_eq_some_iff.mp h
        obtain ⟨B1, hB, h⟩ := Option.bind_eq_some_iff.mp h
        obtain ⟨C1, hC, rfl⟩ := Option.map_eq_some_iff.mp h
        exact snd_chn F (by simp at hs; exact hs.2) (ih.e X sc _ _ F hA) (ih.e X sc _ _ F hB) (ih.e X sc _ _ F hC)
      · obtain ⟨T1, hT, h⟩ := Option.bind_eq_some_iff.mp h
        obtain ⟨A1, hA, h⟩ := Option.bind_eq_some_iff.mp h
        obtain ⟨B1, hB, rfl⟩ := Option.map_eq_some_iff.mp h
        exact snd_ite (ih.t X sc _ _ F hT) (ih.e X sc _ _ F hA) (ih.e X sc _ _ F hB)
      · rename_i f p args pos
        obtain ⟨hg, h⟩ := guardO_some h
        simp only [Bool.and_eq_true] at hg
        split at h
        · rename_i i k hf
          obtain ⟨hl, h⟩ := guardO_some h
          obtain ⟨A1, hA, rfl⟩ := Option.map_eq_some_iff.mp h
          simp only [Bool.and_eq_true, beq_iff_eq, Bool.not_eq_true'] at hl
          obtain ⟨s1, s2, _⟩ := ih.es X sc _ _ F hA
          cases args with
          | nil => simp at hl
          | cons a as => exact snd_call F hg.1 hg.2 (fnOf_get hf) s2 s1
        · split at h
          · next hi =>
            obtain ⟨q, hq, h⟩ := Option.bind_eq_some_iff.mp h
            obtain ⟨p2, hp⟩ := isiArgs_eq hq
            obtain ⟨hg2, h⟩ := guardO_some h
            simp only [Bool.and_eq_true, Bool.not_eq_true'] at hg2
            obtain ⟨ty, ht, h⟩ := Option.bind_eq_some_iff.mp h
            obtain ⟨A1, hA, rfl⟩ := Option.map_eq_some_iff.mp h
            rw [hp, hi]
            exact snd_isi F (by rw [← hi]; exact hg.2) hg2.1.1 hg2.1.2 ht hg2.2 (ih.e X sc _ _ F hA)
          · obtain ⟨hl, h⟩ := guardO_some h
            obtain ⟨b, hb, h⟩ := Option.bind_eq_some_iff.mp h
            obtain ⟨A1, hA, rfl⟩ := Option.map_eq_some_iff.mp h
            obtain ⟨s1, s2, _⟩ := ih.es X sc _ _ F hA
            cases args with
            | nil => simp at hl
            | cons a as => exact snd_bif F hg.1 hg.2 hb s2 s1
      · obtain ⟨hg, h⟩ := guardO_some h
        simp only [Bool.and_eq_true] at hg
        split at h
        · next hm =>
          obtain ⟨A1, hA, rfl⟩ := Option.map_eq_some_iff.mp h
          rw [hm.1, List.isEmpty_iff.mp hm.2]
          exact snd_bits hg.1 hg.2 (ih.e X sc _ _ F hA)
        split at h
        · next hm =>
          obtain ⟨q, hq, h⟩ := Option.bind_eq_some_iff.mp h
          obtain ⟨p2, hp⟩ := trArgs_eq hq
          obtain ⟨ht, h⟩ := guardO_some h
          obtain ⟨A1, hA, rfl⟩ := Option.map_eq_some_iff.mp h
          rw [hp, hm]
          exact snd_tr37 F hg.1 hg.2 ht (ih.e X sc _ _ F hA)
        · obtain ⟨hn, h⟩ := guardO_some h
          obtain ⟨m, hm, h⟩ := Option.bind_eq_some_iff.mp h
          obtain ⟨A1, hA, h⟩ := Option.bind_eq_some_iff.mp h
          obtain ⟨As, hAs, rfl⟩ := Option.map_eq_some_iff.mp h
          obtain ⟨s1, s2, s3⟩ := ih.es X sc _ _ F hAs
          exact snd_met hg.1 hg.2 (of_decide_eq_true hn) hm s2 s3 (ih.e X sc _ _ F hA) s1
      · obtain ⟨A1, hA, h⟩ := Option.bind_eq_some_iff.mp h
        obtain ⟨L1, hL, h⟩ := Option.bind_eq_some_iff.mp h
        obtain ⟨U1, hU, rfl⟩ := Option.map_eq_some_iff.mp h
        exact snd_slc (ih.e X sc _ _ F hA) (ih.o X sc _ _ F hL) (ih.o X sc _ _ F hU)
      · obtain ⟨hs, h⟩ := guardO_some h
        split at h
        · next g hg =>
          obtain ⟨x, p2, he, h1, h2, h3⟩ := dicOf_eq hg
          obtain ⟨B1, hB, rfl⟩ := Option.map_eq_some_iff.mp h
          rw [he]
          exact snd_gdict F (by simpa using hs) h1 h2 h3 (ih.e X sc _ _ F hB)
        obtain ⟨A1, hA, h⟩ := Option.bind_eq_some_iff.mp h
        obtain ⟨B1, hB, rfl⟩ := Option.map_eq_some_iff.mp h
        exact snd_idx (by simpa using hs) (ih.e X sc _ _ F hA) (ih.e X sc _ _ F hB)
      · obtain ⟨A1, hA, rfl⟩ := Option.map_eq_some_iff.mp h
        exact snd_tup (ih.es X sc _ _ F hA).1
      · obtain ⟨A1, hA, rfl⟩ := Option.map_eq_some_iff.mp h
        exact snd_fmt (ih.e X sc _ _ F hA)
      · exact snd_fs1 (ih.e X sc _ _ F h)
      · obtain ⟨A1, hA, rfl⟩ := Option.map_eq_some_iff.mp h
        exact snd_fs (ih.l X sc _ _ F hA)
      · obtain ⟨A1, hA, rfl⟩ := Option.map_eq_some_iff.mp h
        exact snd_lst (ih.es X sc _ _ F hA).1
      · rename_i elt tg iter ifs scope pos
        obtain ⟨hb, h⟩ := guardO_some h
        simp only [Bool.and_eq_true, Bool.not_eq_true'] at hb
        obtain ⟨t, ht, h⟩ := Option.bind_eq_some_iff.mp h
        obtain ⟨hsl, h⟩ := guardO_some h
        obtain ⟨it, hit, h⟩ := Option.bind_eq_some_iff.mp h
        obtain ⟨c, hc, h⟩ := Option.bind_eq_some_iff.mp h
        obtain ⟨A1, hA, rfl⟩ := Option.map_eq_some_iff.mp h
        have ok := blkOk_by hb.1
        refine snd_comp F ok hb.2 ht (fun i hi => of_decide_eq_true (List.all_eq_true.mp hsl i hi)) (ih.i X sc _ _ _ F hit) ?_ fun s H C' cl fp => ih.e _ _ _ _ (F.blk ok s H C' cl fp) hA
        split at hc
        · cases hc; exact .inl ⟨rfl, rfl⟩
        · exact .inr ⟨_, rfl, fun s H C' cl fp => ih.t _ _ _ _ (F.blk ok s H C' cl fp) hc⟩
        · cases hc
      · cases h
    case and =>
      intro X sc es pos A F h
      unfold resAnd at h
      split at h
      · exact pe_or1 (ih.e X sc _ _ F h)
      · obtain ⟨A1, hA, h⟩ := Option.bind_eq_some_iff.mp h
        obtain ⟨B1, hB, rfl⟩ := Option.map_eq_some_iff.mp h
        exact snd_and (ih.e X sc _ _ F hA) (ih.and X sc _ _ _ F hB)
      · cases h
    case or =>
      intro X sc es pos A F h
      unfold resOr at h
      split at h
      · exact pe_or1 (ih.e X sc _ _ F h)
      · obtain ⟨A1, hA, h⟩ := Option.bind_eq_some_iff.mp h
        obtain ⟨B1, hB, rfl⟩ := Option.map_eq_some_iff.mp h
        exact snd_or (ih.e X sc _ _ F hA) (ih.or X sc _ _ _ F hB)
      · cases h
    case es =>
      intro X sc es A F h
      unfold resEs at h
      split at h
      · cases h; exact ⟨sndA_nil, rfl, fun _ => rfl⟩
      · obtain ⟨hs, h⟩ := guardO_some h
        obtain ⟨A1, hA, h⟩ := Option.bind_eq_some_iff.mp h
        obtain ⟨B1, hB, rfl⟩ := Option.map_eq_some_iff.mp h
        obtain ⟨s1, s2, _⟩ := ih.es X sc _ _ F hB
        refine ⟨sndA_cons (by simpa using hs) (ih.e X sc _ _ F hA) s1, ?_, fun z => by cases z⟩
        rw [List.all_cons, hs, s2]; rfl
    case l =>
      intro X sc es A F h
      unfold resEs at h
      split at h
      · cases h; exact .nil
      · obtain ⟨hs, h⟩ := guardO_some h
        obtain ⟨A1, hA, h⟩ := Option.bind_eq_some_iff.mp h
        obtain ⟨B1, hB, rfl⟩ := Option.map_eq_some_iff.mp h
        exact .cons (ih.e X sc _ _ F hA) (ih.l X sc _ _ F hB)
    case o =>
      intro X sc o A F h
      unfold resO at h
      split at h
      · cases h; exact sndO_none
      · obtain ⟨A1, hA, rfl⟩ := Option.map_eq_some_iff.mp h
        exact sndO_some (ih.e X sc _ _ F hA)
    case t =>
      intro X sc e A F h
      unfold resT at h
      split at h
      · obtain ⟨A1, hA, rfl⟩ := Option.map_eq_some_iff.mp h
        exact sndT_not (ih.t X sc _ _ F hA)
      · exact sndT_w (ih.tand X sc _ _ _ F h)
      · exact sndT_w (ih.tor X sc _ _ _ F h)
      · split at h
        · next g hg =>
          obtain ⟨x, p2, he, h1, h2, h3⟩ := dicOf_eq hg
          obtain ⟨neg, hn, h⟩ := Option.bind_eq_some_iff.mp h
          obtain ⟨A1, hA, rfl⟩ := Option.map_eq_some_iff.mp h
          rw [he, inOp_eq hn]
          exact sndT_gin F h1 h2 h3 (ih.e X sc _ _ F hA)
        obtain ⟨hs, h⟩ := guardO_some h
        obtain ⟨A1, hA, h⟩ := Option.bind_eq_some_iff.mp h
        obtain ⟨B1, hB, rfl⟩ := Option.map_eq_some_iff.mp h
        exact sndT_cmp F (by simpa using hs) (ih.e X sc _ _ F hA) (ih.e X sc _ _ F hB)
      · obtain ⟨hs, h⟩ := guardO_some h
        obtain ⟨A1, hA, h⟩ := Option.bind_eq_some_iff.mp h
        obtain ⟨B1, hB, h⟩ := Option.bind_eq_some_iff.mp h
        obtain ⟨C1, hC, rfl⟩ := Option.map_eq_some_iff.mp h
        exact sndT_chn F (by simp at hs; exact hs.2) (ih.e X sc _ _ F hA) (ih.e X sc _ _ F hB) (ih.e X sc _ _ F hC)
      · obtain ⟨hp, h⟩ := guardO_some h
        obtain ⟨A1, hA, rfl⟩ := Option.map_eq_some_iff.mp h
        exact sndT_val hp (ih.e X sc _ _ F hA)
    case tand =>
      intro X sc es pos A F h
      unfold resTAnd at h
      split at h
      · exact sndW_and1 (ih.t X sc _ _ F h)
      · obtain ⟨A1, hA, h⟩ := Option.bind_eq_some_iff.mp h
        obtain ⟨B1, hB, rfl⟩ := Option.map_eq_some_iff.mp h
        exact sndW_and (ih.t X sc _ _ F hA) (ih.tand X sc _ _ _ F hB)
      · cases h
    case tor =>
      intro X sc es pos A F h
      unfold resTOr at h
      split at h
      · exact sndW_or1 (ih.t X sc _ _ F h)
      · obtain ⟨A1, hA, h⟩ := Option.bind_eq_some_iff.mp h
        obtain ⟨B1, hB, rfl⟩ := Option.map_eq_some_iff.mp h
        exact sndW_or (ih.t X sc _ _ F hA) (ih.tor X sc _ _ _ F hB)
      · cases h
    case i =>
      intro X sc tg e A F h
      unfold resI at h
      split at h
      · split at h
        · rename_i hr
          subst hr
          obtain ⟨hg, h⟩ := guardO_some h
          split at h
          · obtain ⟨hs, h⟩ := guardO_some h
            obtain ⟨A1, hA, rfl⟩ := Option.map_eq_some_iff.mp h
            exact sndI_rng1 F hg (by simpa using hs) (ih.e X sc _ _ F hA)
          · obtain ⟨hs, h⟩ := guardO_some h
            obtain ⟨A1, hA, h⟩ := Option.bind_eq_some_iff.mp h
            obtain ⟨B1, hB, rfl⟩ := Option.map_eq_some_iff.mp h
            simp only [Bool.and_eq_true, Bool.not_eq_true'] at hs
            exact sndI_rng2 F hg hs.1 hs.2 (ih.e X sc _ _ F hA) (ih.e X sc _ _ F hB)
          · cases h
        · obtain ⟨A1, hA, rfl⟩ := Option.map_eq_some_iff.mp h
          exact sndI_seq (ih.e X sc _ _ F hA)
      · obtain ⟨hs, h⟩ := guardO_some h
        obtain ⟨A1, hA, rfl⟩ := Option.map_eq_some_iff.mp h
        exact sndI_seq (ih.e X sc _ _ F hA)
end PyI
/-! A12: statements. -/
namespace PyI
open PySem L2
def isComp : Expr → Bool
  | .ListComp _ _ _ _ => true
  | .SetComp _ _ _ _ => true
  | .DictComp _ _ _ _ _ => true
  | _ => false
def isTup : Expr → Bool
  | .Tuple _ _ _ => true
  | _ => false
theorem sw_plain {e : Expr} {t : Option Expr} {l : Nat} {env : Env} (h : isComp e = false) : swapsWith e t l env = pure false := by
  cases e <;> first | rfl | (simp [isComp] at h)
theorem sw_sole {e t : Expr} {l : Nat} {env : Env} (h : isComp e = false) : swapsWithSole [t] e l env = pure false := by
  unfold swapsWithSole
  exact sw_plain h
theorem sw_stores {ts : List Expr} {e : Expr} {env : Env} (h : isTup e = false) : swappedStores ts e env = pure none := by
  unfold swappedStores
  split
  · rename_i q
    exfalso
    revert q
    split
    · simp [isTup] at h
    · simp [isTup] at h
    · intro q; cases q
  · rfl
def swB (sc scope : Scope) (x : Str) (px pos : Pos) : Bool := (sc.names.lookup x == some .local) && (px.line == pos.line) && !(scope.names.any fun (n, k) => n == x && (k == .local || k == .cell))
theorem sw_comp {elt : Expr} {gs : List Comprehension} {scope sc : Scope} {x : Str} {px pos : Pos} {l : Nat} {env : Env} (hk : env.scope.kind = .function) (hsc : env.scope = sc) :
    swapsWith (.ListComp elt gs scope pos) (some (.Name x px)) l env = pure (swB sc scope x px pos) := by
  have hb : env.blockKind = .function := by unfold Env.blockKind; rw [hk]; rfl
  unfold swapsWith swB
  subst hsc
  simp only [hb, Expr.pos]
  rfl
/-- what follows of a block's end -/
def OkS (K : PySem.W.Frag) (ct : CTab) (M : AM) (H : Hp) (o : Out) (D : Ends) (W : WX) : Prop := match o with
  | .nx ρ μ => ∀ σ' H' M', Evo M H M' H' → RelH K ct H' μ M' → RelE K H' M' σ' ρ → D.nx σ' H'
  | .br ρ μ => ∀ σ' H' M', Evo M H M' H' → RelH K ct H' μ M' → RelE K H' M' σ' ρ → D.bk σ' H'
  | .ct ρ μ => ∀ σ' H' M', Evo M H M' H' → RelH K ct H' μ M' → RelE K H' M' σ' ρ → D.ct σ' H'
  | .rt d μ => ∀ v H' M', Evo M H M' H' → RelH K ct H' μ M' → Rep K H' M' v d → D.rt v H'
  | .er c fs ρ μ => ∀ cls d σ' H' M', Evo M H M' H' → RelH K ct H' μ M' → RelE K H' M' σ' ρ → ErrRep K ct H' M' c fs cls d → W cls d σ' H'
  | .stuck => False
section
variable {K : PySem.W.Frag} {ct : CTab} {M M1 : AM} {H H1 : Hp} {o : Out} {D D' : Ends} {W : WX} {μ : Mu} {ρ : Rho} {σ : St}
theorem OkS.evo (e : Evo M H M1 H1) (h : OkS K ct M H o D W) : OkS K ct M1 H1 o D W := by
  cases o with
  | nx ρ μ => exact fun σ' H' M' e' => h σ' H' M' (e.trans e')
  | br ρ μ => exact fun σ' H' M' e' => h σ' H' M' (e.trans e')
  | ct ρ μ => exact fun σ' H' M' e' => h σ' H' M' (e.trans e')
  | rt d μ => exact fun v H' M' e' => h v H' M' (e.trans e')
  | er c fs ρ μ => exact fun cls d σ' H' M' e' => h cls d σ' H' M' (e.trans e')
  | stuck => exact h
theorem OkS.step {α β : Type} {R : Hp → AM → β → α → Prop} {r : Res α} {f : α → Mu → Out} {Q : β → Hp → Prop} (h : OkS K ct M H (r.then ρ f) D W) (E : RelE K H M σ ρ)
    (k : ∀ a μ1 v H1 M1, Evo M H M1 H1 → RelH K ct H1 μ1 M1 → R H1 M1 v a → OkS K ct M1 H1 (f a μ1) D W → Q v H1) : Ok K ct R M H r Q (fun c d H' => W c d σ H') := by
  cases r with
  | ok a μ' => exact fun v H' M' e R1 r1 => k a μ' v H' M' e R1 r1 (OkS.evo e h)
  | err c fs μ' => exact fun cls d H' M' e R1 r1 => h cls d σ H' M' e R1 (E.evo e) r1
  | stuck => exact h
theorem OkS.nxt (h : OkS K ct M H (.nx ρ μ) D W) (R : RelH K ct H μ M) (E : RelE K H M σ ρ) : D.nx σ H := h σ H M (Evo.refl M H) R E
/-- another end -/
theorem OkS.seq {f : Rho → Mu → Out} (h : OkS K ct M H (o.next f) D W) (h1 : D'.rt = D.rt) (h2 : D'.bk = D.bk) (h3 : D'.ct = D.ct)
    (k : ∀ ρ μ σ' H' M', Evo M H M' H' → RelH K ct H' μ M' → RelE K H' M' σ' ρ → OkS K ct M' H' (f ρ μ) D W → D'.nx σ' H') : OkS K ct M H o D' W := by
  cases o with
  | nx ρ μ => exact fun σ' H' M' e R E => k ρ μ σ' H' M' e R E (OkS.evo e h)
  | br ρ μ => exact fun σ' H' M' e R E => by rw [h2]; exact h σ' H' M' e R E
  | ct ρ μ => exact fun σ' H' M' e R E => by rw [h3]; exact h σ' H' M' e R E
  | rt d μ => exact fun v H' M' e R r => by rw [h1]; exact h v H' M' e R r
  | er c fs ρ μ => exact h
  | stuck => exact h
end
def wS (τ : Bool) (X : Cx) (st : Stmt) : TS := fun D σ H => ∀ pins s, (τ = true → 1 ≤ s.toks) → Inv X pins σ H s → wpAny (model X.prog X.w) X.A (exec st X.env) (SP X pins D) X.xe s
def wB (τ : Bool) (X : Cx) (st : List Stmt) : TS := fun D σ H => ∀ pins s, (τ = true → 1 ≤ s.toks) → Inv X pins σ H s → wpAny (model X.prog X.w) X.A (execs st X.env) (SP X pins D) X.xe s
section
variable {τ : Bool} {X : Cx} {st : Stmt} {sts : List Stmt} {D : Ends} {σ : St} {H : Hp}
theorem ws {t : TS} (p : PS X st t) (h : t D σ H) : wS τ X st D σ H := fun pins s _ I => p.run pins s σ H D I h
end
structure FrS (X : Cx) (ct : CTab) (tb : Tb) (Γ : G) (N : List Str) (sc : Scope) (loc : List Str) : Prop where
  f : Fr X ct tb Γ N sc
  l : FnLoc X sc loc
  po : PassesOwn (model X.prog X.w) X.A X.env X.xe
def SndS (τ : Bool) (X : Cx) (ct : CTab) (Γ : G) (st : Stmt) (A : S) : Prop := ∀ (W : WX) (ρ : Rho) (μ : Mu) (σ : St) (H : Hp) (M : AM) (D : Ends), Takes X W → RelE X.K H M σ ρ → RelH X.K ct H μ M →
  OkS X.K ct M H (runS Γ A ρ μ) D W → wS τ X st D σ H
def SndBk (τ : Bool) (X : Cx) (ct : CTab) (Γ : G) (st : List Stmt) (A : B) : Prop := ∀ (W : WX) (ρ : Rho) (μ : Mu) (σ : St) (H : Hp) (M : AM) (D : Ends), Takes X W → RelE X.K H M σ ρ → RelH X.K ct H μ M →
  OkS X.K ct M H (runB Γ A ρ μ) D W → wB τ X st D σ H
section
variable {τ : Bool} {X : Cx} {ct : CTab} {Γ : G} {N loc : List Str} {sc : Scope} {tb : Tb} {e a b o i v tg : Expr} {A B' C' : E} {t : T} {pos px : Pos} {x : Str} {k : Nat} {st : Stmt} {sts body : List Stmt} {SA : S} {BA BB : B}
theorem sndS_bad : SndS τ X ct Γ st .bad := by
  intro W ρ μ σ H M D tk E R h
  unfold runS at h
  exact h.elim
/-- x = e -/
theorem sndS_set (F : FrS X ct tb Γ N sc loc) (hx : x ∈ loc) (hi : N[k]? = some x) (hc : isComp e = false) (he : Snd X ct Γ e A) : SndS τ X ct Γ (.Assign [.Name x px] e pos) (.set (.nm k) A) := by
  intro W ρ μ σ H M D tk E R h
  unfold runS at h
  refine ws (ps_set (by rw [F.f.hN]; exact F.f.nd) (by rw [F.f.hN]; exact hi) (by rw [F.f.hsc]; exact (F.l x hx).1) pE (sw_plain hc) (by rw [F.f.hsc]; exact (F.l x hx).2)) ?_
  refine he W ρ μ σ H M _ tk E R (h.step E fun d μ1 v H1 M1 e1 R1 r1 h1 => ?_)
  exact h1.nxt R1 ((E.evo e1).set r1 k)
/-- a, b = e -/
theorem sndS_tup {es : List Expr} {kk : Nat} {l : List Nat} (F : FrS X ct tb Γ N sc loc) (hl : resNames N loc es = some l) (hc : isComp e = false) (ht : isTup e = false) (he : Snd X ct Γ e A) : SndS τ X ct Γ (.Assign [.Tuple es kk px] e pos) (.set (.tp l) A) := by
  intro W ρ μ σ H M D tk E R h
  unfold runS at h
  have pg : PG X (.Tuple es kk px) (gOf X.K (.tp l)) := tg_ok F.f F.l (by show Option.map Tg.tp (resNames N loc es) = _; rw [hl]; rfl)
  refine ws (ps_asg pE pg (sw_sole hc) (sw_stores ht)) ?_
  refine he W ρ μ σ H M _ tk E R (h.step E fun d μ1 v H1 M1 e1 R1 r1 h1 => ?_)
  split at h1
  · rename_i ρ' ha
    exact assign_ok r1 (E.evo e1) ha fun σ' E' _ => h1.nxt R1 E'
  · exact h1.elim
/-- o[i] = v -/
theorem sndS_setIx (F : FrS X ct tb Γ N sc loc) (hs : isSlc i = false) (hc : isComp v = false) (hv : Snd X ct Γ v C') (ho : Snd X ct Γ o A) (hi : Snd X ct Γ i B') : SndS τ X ct Γ (.Assign [.Subscript o i px] v pos) (.setIx A B' C') := by
  intro W ρ μ σ H M D tk E R h
  unfold runS at h
  have pg : PG X (.Subscript o i px) (gSub (wE X o) (wE X i) rSetL) := pg_sub pE pE set_list (fun v => by cases i <;> first | rfl | skip; rename_i s _; cases s <;> first | rfl | (simp [isSlc] at hs))
  have hw : swappedStores [.Subscript o i px] v X.env = pure none := by
    unfold swappedStores
    split
    · rename_i q; simp at q
    · rfl
  refine ws (ps_asg pE pg (sw_sole hc) hw) ?_
  refine hv W ρ μ σ H M _ tk E R (h.step E fun d μ1 vv H1 M1 e1 R1 r1 h1 => ?_)
  have E1 := E.evo e1
  refine ho W ρ μ1 σ H1 M1 _ tk E1 R1 (h1.step E1 fun d2 μ2 ov H2 M2 e2 R2 r2 h2 => ?_)
  have E2 := E1.evo e2
  refine hi W ρ μ2 σ H2 M2 _ tk E2 R2 (h2.step E2 fun d3 μ3 iv H3 M3 e3 R3 r3 h3 => ?_)
  have E3 := E2.evo e3
  unfold setIxD at h3
  split at h3
  · rename_i n kk
    cases r3
    split at h3
    · rename_i l hl
      split at h3
      · rename_i j hj
        have r2' := r2.evo e3
        cases r2' with
        | ref ha =>
          obtain ⟨xs, hh, rx⟩ := R3.lst hl ha
          have em : Evo M3 H3 M3 (upd H3 _ (.lst (xs.set j vv))) := Evo.mut (List.mem_of_getElem? ha)
          refine ⟨_, xs, _, j, rfl, rfl, hh, by rw [rx.length]; exact hj, ?_⟩
          have r1' := (r1.evo e2).evo e3
          exact (h3 : OkS X.K ct M3 H3 (.nx ρ _) D W) σ _ M3 em (R3.mut ha ⟨_, upd_same, Reps.set (r1'.evo em) j (rx.evo em)⟩) (E3.evo em)
      · exact (h3 : False).elim
    · exact (h3 : False).elim
  · exact (h3 : False).elim
theorem sndS_expr (hc : isComp e = false) (he : Snd X ct Γ e A) : SndS τ X ct Γ (.Expr e pos) (.expr A) := by
  intro W ρ μ σ H M D tk E R h
  unfold runS at h
  refine ws (ps_expr pE (sw_plain hc)) ?_
  refine he W ρ μ σ H M _ tk E R (h.step E fun d μ1 v H1 M1 e1 R1 r1 h1 => ?_)
  exact h1.nxt R1 (E.evo e1)
theorem sndS_ret (he : Snd X ct Γ e A) : SndS τ X ct Γ (.Return (some e) pos) (.ret A) := by
  intro W ρ μ σ H M D tk E R h
  unfold runS at h
  refine ws (ps_ret pE) ?_
  refine he W ρ μ σ H M _ tk E R (h.step E fun d μ1 v H1 M1 e1 R1 r1 h1 => ?_)
  exact h1 v H1 M1 (Evo.refl _ _) R1 r1
theorem sndS_retN : SndS τ X ct Γ (.Return none pos) .retN := by
  intro W ρ μ σ H M D tk E R h
  unfold runS at h
  exact ws ps_retN (h .non H M (Evo.refl _ _) R .non)
theorem sndS_pass : SndS τ X ct Γ (.Pass pos) .pass := by
  intro W ρ μ σ H M D tk E R h
  unfold runS at h
  exact ws ps_pass (h.nxt R E)
theorem sndS_brk : SndS τ X ct Γ (.Break pos) .brk := by
  intro W ρ μ σ H M D tk E R h
  unfold runS at h
  exact ws ps_break (h σ H M (Evo.refl _ _) R E)
theorem sndS_cnt : SndS τ X ct Γ (.Continue pos) .cnt := by
  intro W ρ μ σ H M D tk E R h
  unfold runS at h
  exact ws ps_continue (h σ H M (Evo.refl _ _) R E)
/-- x += e -/
theorem sndS_aug {op : Operator} {bo : Bop} (F : FrS X ct tb Γ N sc loc) (hx : x ∈ loc) (hi : N[k]? = some x) (hb : (op = .Add ∧ bo = .add) ∨ (op = .Sub ∧ bo = .sub)) (he : Snd X ct Γ e A) : SndS τ X ct Γ (.AugAssign (.Name x px) op e pos) (.aug k bo A) := by
  intro W ρ μ σ H M En tk E R h
  unfold runS at h
  split at h
  · rename_i z hz
    obtain ⟨vz, h1, r⟩ := E.at_ k _ hz
    cases r
    rcases hb with ⟨rfl, rfl⟩ | ⟨rfl, rfl⟩
    · refine ws (ps_aug (by rw [F.f.hN]; exact F.f.nd) (by rw [F.f.hN]; exact hi) (by rw [F.f.hsc]; exact (F.l x hx).1) pE ip_add (by rw [F.f.hsc]; exact (F.l x hx).2)) ?_
      refine ⟨_, h1, ?_⟩
      refine he W ρ μ σ H M _ tk E R (h.step E fun d μ1 v H1 M1 e1 R1 r1 h1 => ?_)
      cases r1 with
      | int j => exact ⟨z, j, rfl, rfl, OkS.nxt (μ := μ1) h1 R1 ((E.evo e1).set (.int _) k)⟩
      | _ => exact (h1 : False).elim
    · refine ws (ps_aug (by rw [F.f.hN]; exact F.f.nd) (by rw [F.f.hN]; exact hi) (by rw [F.f.hsc]; exact (F.l x hx).1) pE ip_sub (by rw [F.f.hsc]; exact (F.l x hx).2)) ?_
      refine ⟨_, h1, ?_⟩
      refine he W ρ μ σ H M _ tk E R (h.step E fun d μ1 v H1 M1 e1 R1 r1 h1 => ?_)
      cases r1 with
      | int j => exact ⟨z, j, rfl, rfl, OkS.nxt (μ := μ1) h1 R1 ((E.evo e1).set (.int _) k)⟩
      | _ => exact (h1 : False).elim
  · exact h.elim
end
end PyI
/-! A13: statements: new lists, replace, blocks, loops. -/
namespace PyI
open PySem L2
section
variable {τ : Bool} {X : Cx} {ct : CTab} {Γ : G} {N loc : List Str} {sc scope : Scope} {tb : Tb} {e a b o i v tg elt iter c : Expr} {es ifs : List Expr} {A B' C' : E} {As : Es} {t : T} {pos px : Pos} {x : Str} {k : Nat} {st : Stmt} {sts body : List Stmt} {SA : S} {BA BB : B}
/-- x = [e for ..] -/
theorem sndS_setC {tt : Tg} {it : IT} {c : T} (F : FrS X ct tb Γ N sc loc) (hx : x ∈ loc) (hi : N[k]? = some x) (ok : BlkOk N sc scope (ownOf N scope)) (hset : isSet iter = false) (ht : resTg N ((ownOf N scope).map Prod.fst) tg = some tt) (hsl : ∀ i ∈ slotsOf tt, i ∈ (ownOf N scope).map Prod.snd)
    (hI : SndI X ct Γ tg iter it) (hc : SndTB X ct Γ scope ifs c) (he : SndB X ct Γ scope elt A) : SndS τ X ct Γ (.Assign [.Name x px] (.ListComp elt [⟨tg, iter, ifs, 0⟩] scope pos) pos') (.set (.nm k) (.comp ((ownOf N scope).map Prod.snd) tt it c A)) := by
  intro W ρ μ σ H M D tk E R h
  unfold runS at h
  have okX : BlkOk X.N X.env.scope scope (ownOf N scope) := by rw [F.f.hN, F.f.hsc]; exact ok
  have core : tLc (wI X tg iter) (gOf X.K tt) (wTB X scope ifs) (wEB X scope elt) ((ownOf N scope).map (·.2)) σ H (fun x H1 => D.nx (σ.set k (some x)) H1) := by
    refine comp_core F.f ok hset ht hsl hI hc he tk E R (Ok.toN R (fun d μ' q => comp_lst q) (h.step E fun d μ1 v H1 M1 e1 R1 r1 h1 => ?_))
    exact h1.nxt R1 ((E.evo e1).set r1 k)
  cases hsw : swB sc scope x px pos with
  | true =>
    have hl : sc.names.lookup x = some .local := by
      unfold swB at hsw
      simp only [Bool.and_eq_true, beq_iff_eq] at hsw
      exact hsw.1.1
    refine ws (ps_setLc (g := gOf X.K tt) (te := wEB X scope elt) (tt := wTB X scope ifs) (wi := wI X tg iter) F.f.calm (by rw [F.f.hN]; exact F.f.nd) (by rw [F.f.hN]; exact hi) (by rw [F.f.hsc]; exact hl) (by rw [sw_comp (by rw [F.f.hsc]; exact F.f.kindF) F.f.hsc, hsw]) pI okX (fun s H C cl fp => tg_ok (F.f.blk ok s H C cl fp) (own_loc ok s H C cl fp) ht) (comp_pts hc) (fun s H C cl fp => ⟨fun pins s' σ H' Q' I q => q s H C cl fp pins s' I⟩) (set_iter hset)) core
  | false =>
    refine ws (ps_set (by rw [F.f.hN]; exact F.f.nd) (by rw [F.f.hN]; exact hi) (by rw [F.f.hsc]; exact (F.l x hx).1)
      (pe_lc (te := wEB X scope elt) (tt := wTB X scope ifs) (g := gOf X.K tt) (wi := wI X tg iter) F.f.calm (by rw [F.f.hN]; exact F.f.nd) pI okX (fun s H C cl fp => tg_ok (F.f.blk ok s H C cl fp) (own_loc ok s H C cl fp) ht) (comp_pts hc) (fun s H C cl fp => ⟨fun pins s' σ H' Q' I q => q s H C cl fp pins s' I⟩) (set_iter hset))
      (by rw [sw_comp (by rw [F.f.hsc]; exact F.f.kindF) F.f.hsc, hsw]) (by rw [F.f.hsc]; exact (F.l x hx).2)) core
/-- what becomes ours -/
theorem takeNew {W : WX} {ρ : Rho} {μ : Mu} {σ : St} {H : Hp} {M : AM} {D : Ends} {r : Res PyI.D} (E : RelE X.K H M σ ρ) (R : RelH X.K ct H μ M)
    (h : OkS X.K ct M H (r.then ρ fun d μ => match d with
      | .lst l => .nx (ρ.set k (some (.ref μ.length))) (μ ++ [.lst l])
      | _ => .stuck) D W) : OkN X.K ct M H r (fun x H1 => D.nx (σ.set k (some x)) H1) (fun c d H' => W c d σ H') := by
  cases r with
  | stuck => exact h
  | err c fs μ' => exact fun cls d H' M' e R1 r1 => h cls d σ H' M' e R1 (E.evo e) r1
  | ok d μ2 =>
    cases d with
    | lst acc =>
      intro p H2 M2 accv hp e2 R2 hp2 ra
      have hpe : p ∉ M2.ex := by rw [e2.ex]; exact (R.fresh hp).2
      have rm : MRep X.K ct H2 (M2.add p) p (.lst acc) := ⟨accv, hp2, ra.stay Stay.take⟩
      have R3 := R2.takeIn hpe rm
      have ea : Evo M H (M2.add p) H2 := ⟨fun n a q => ix_add (e2.pre n a q), by show _ ≤ (M2.ix ++ [p]).length; rw [List.length_append]; exact Nat.le_add_right_of_le e2.len, e2.ex, fun a u hh n => ⟨(e2.keep a u hh n).1, by
        show a ∉ M2.ix ++ [p]
        rw [List.mem_append, List.mem_singleton]
        rintro (q | q)
        · exact (e2.keep a u hh n).2 q
        · exact ne_of_none hh hp q⟩⟩
      have hl : M2.ix.length = μ2.length := R2.len
      exact h _ H2 (M2.add p) ea R3 ((E.evo ea).set (.ref (by show (M2.ix ++ [p])[μ2.length]? = some p; rw [← hl, List.getElem?_append_right (Nat.le_refl _), Nat.sub_self]; rfl)) k)
    | _ => exact (h : False).elim
/-- x = [e, ..], to be ours -/
theorem sndS_newL (F : FrS X ct tb Γ N sc loc) (hx : x ∈ loc) (hi : N[k]? = some x) (ha : SndA X ct Γ es As) : SndS τ X ct Γ (.Assign [.Name x px] (.List es pos) pos') (.new k (.lst As)) := by
  intro W ρ μ σ H M D tk E R h
  unfold runS at h
  have hN := takeNew E R h
  refine ws (ps_set (by rw [F.f.hN]; exact F.f.nd) (by rw [F.f.hN]; exact hi) (by rw [F.f.hsc]; exact (F.l x hx).1) (pe_lst pA) (sw_plain rfl) (by rw [F.f.hsc]; exact (F.l x hx).2)) ?_
  unfold evalE at hN
  refine ha W ρ μ σ H M _ tk E R ?_
  cases hA : evalEs Γ As ρ μ with
  | stuck => rw [hA] at hN; exact hN.elim
  | err c fs μ' => rw [hA] at hN; exact hN
  | ok ds μ1 =>
    rw [hA] at hN
    intro vs H1 M1 e1 R1 r1
    have hn : OkN X.K ct M H (needs (ds.length ≤ 16777216) (.ok (.lst ds) μ1)) (fun x H1 => D.nx (σ.set k (some x)) H1) (fun c d H' => W c d σ H') := hN
    unfold needs at hn
    by_cases hz : ds.length ≤ 16777216
    · rw [if_pos hz] at hn
      refine ⟨sl16 (by rw [r1.length]; exact hz), fun p hp => ?_⟩
      exact hn p (upd H1 p (.lst vs)) M1 vs (e1.back R R1 hp) (e1.newEx (e1.back R R1 hp)) (R1.hide hp) upd_same (r1.stay ((Stay.hide hp).trans (Evo.new hp).stay))
    · rw [if_neg hz] at hn; exact (hn : False).elim
theorem sndS_newC {tt : Tg} {it : IT} {c : T} (F : FrS X ct tb Γ N sc loc) (hx : x ∈ loc) (hi : N[k]? = some x) (ok : BlkOk N sc scope (ownOf N scope)) (hset : isSet iter = false) (ht : resTg N ((ownOf N scope).map Prod.fst) tg = some tt) (hsl : ∀ i ∈ slotsOf tt, i ∈ (ownOf N scope).map Prod.snd)
    (hI : SndI X ct Γ tg iter it) (hc : SndTB X ct Γ scope ifs c) (he : SndB X ct Γ scope elt A) : SndS τ X ct Γ (.Assign [.Name x px] (.ListComp elt [⟨tg, iter, ifs, 0⟩] scope pos) pos') (.new k (.comp ((ownOf N scope).map Prod.snd) tt it c A)) := by
  intro W ρ μ σ H M D tk E R h
  unfold runS at h
  have okX : BlkOk X.N X.env.scope scope (ownOf N scope) := by rw [F.f.hN, F.f.hsc]; exact ok
  have core : tLc (wI X tg iter) (gOf X.K tt) (wTB X scope ifs) (wEB X scope elt) ((ownOf N scope).map (·.2)) σ H (fun x H1 => D.nx (σ.set k (some x)) H1) := comp_core F.f ok hset ht hsl hI hc he tk E R (takeNew E R h)
  cases hsw : swB sc scope x px pos with
  | true =>
    have hl : sc.names.lookup x = some .local := by
      unfold swB at hsw
      simp only [Bool.and_eq_true, beq_iff_eq] at hsw
      exact hsw.1.1
    refine ws (ps_setLc (g := gOf X.K tt) (te := wEB X scope elt) (tt := wTB X scope ifs) (wi := wI X tg iter) F.f.calm (by rw [F.f.hN]; exact F.f.nd) (by rw [F.f.hN]; exact hi) (by rw [F.f.hsc]; exact hl) (by rw [sw_comp (by rw [F.f.hsc]; exact F.f.kindF) F.f.hsc, hsw]) pI okX (fun s H C cl fp => tg_ok (F.f.blk ok s H C cl fp) (own_loc ok s H C cl fp) ht) (comp_pts hc) (fun s H C cl fp => ⟨fun pins s' σ H' Q' I q => q s H C cl fp pins s' I⟩) (set_iter hset)) core
  | false =>
    refine ws (ps_set (by rw [F.f.hN]; exact F.f.nd) (by rw [F.f.hN]; exact hi) (by rw [F.f.hsc]; exact (F.l x hx).1)
      (pe_lc (te := wEB X scope elt) (tt := wTB X scope ifs) (g := gOf X.K tt) (wi := wI X tg iter) F.f.calm (by rw [F.f.hN]; exact F.f.nd) pI okX (fun s H C cl fp => tg_ok (F.f.blk ok s H C cl fp) (own_loc ok s H C cl fp) ht) (comp_pts hc) (fun s H C cl fp => ⟨fun pins s' σ H' Q' I q => q s H C cl fp pins s' I⟩) (set_iter hset))
      (by rw [sw_comp (by rw [F.f.hsc]; exact F.f.kindF) F.f.hsc, hsw]) (by rw [F.f.hsc]; exact (F.l x hx).2)) core

/-- e makes a new list -/
def SndN (X : Cx) (ct : CTab) (Γ : G) (e : Expr) (A : E) : Prop := ∀ (W : WX) (ρ : Rho) (μ : Mu) (σ : St) (H : Hp) (M : AM) (Q : VK), Takes X W → RelE X.K H M σ ρ → RelH X.K ct H μ M →
  OkN X.K ct M H (evalE Γ A ρ μ) Q (fun c d H' => W c d σ H') → wE X e σ H Q
theorem OkN.step {α β : Type} {K : PySem.W.Frag} {R' : Hp → AM → β → α → Prop} {M : AM} {H : Hp} {μ : Mu} {r : Res α} {f : α → Mu → Res PyI.D} {Q : VK} {Q1 : β → Hp → Prop} {W : XK} (R : RelH K ct H μ M) (h : OkN K ct M H (r.bind f) Q W)
    (k : ∀ a μ1 v H1 M1, Evo M H M1 H1 → RelH K ct H1 μ1 M1 → R' H1 M1 v a → OkN K ct M1 H1 (f a μ1) Q W → Q1 v H1) : Ok K ct R' M H r Q1 W := by
  cases r with
  | ok a μ' => exact fun v H' M' e R1 r1 => k a μ' v H' M' e R1 r1 (OkN.evo e R R1 h)
  | err c fs μ' => exact h
  | stuck => exact h
theorem sndN_lst (ha : SndA X ct Γ es As) : SndN X ct Γ (.List es pos) (.lst As) := by
  intro W ρ μ σ H M Q tk E R h
  unfold evalE at h
  refine we (pe_lst pA) ?_
  refine ha W ρ μ σ H M _ tk E R (OkN.step R h fun ds μ1 vs H1 M1 e1 R1 r1 h1 => ?_)
  unfold needs at h1
  by_cases hz : ds.length ≤ 16777216
  · rw [if_pos hz] at h1
    exact ⟨sl16 (by rw [r1.length]; exact hz), fun p hp => h1 p (upd H1 p (.lst vs)) M1 vs hp (Evo.new hp) (R1.hide hp) upd_same (r1.stay ((Stay.hide hp).trans (Evo.new hp).stay))⟩
  · rw [if_neg hz] at h1; exact (h1 : False).elim
theorem sndN_ite {c a b : Expr} {t : T} {A B : E} (hc : SndT X ct Γ c t) (ha : SndN X ct Γ a A) (hb : SndN X ct Γ b B) : SndN X ct Γ (.IfExp c a b pos) (.ite t A B) := by
  intro W ρ μ σ H M Q tk E R h
  unfold evalE at h
  refine we (pe_ifExp pT pE pE) ?_
  refine hc W ρ μ σ H M _ tk E R (OkN.step R h fun k μ1 v H1 M1 e1 R1 r1 h1 => ?_)
  cases r1
  cases k with
  | true => exact ha W ρ μ1 σ H1 M1 _ tk (E.evo e1) R1 h1
  | false => exact hb W ρ μ1 σ H1 M1 _ tk (E.evo e1) R1 h1
theorem addN_ok {H : Hp} {M : AM} {μ : Mu} {x y : V} {d d' : PyI.D} {Q : VK} {W : XK} (R : RelH X.K ct H μ M) (rx : Rep X.K H M x d) (ry : Rep X.K H M y d') (h : OkN X.K ct M H (binD .add d d' μ) Q W) : wO X (binaryOp .Add) x y H Q := by
  have go : ∀ {i j : List PyI.D}, lstD μ d = some i → lstD μ d' = some j → OkN X.K ct M H (needs (i.length + j.length ≤ 16777216) (.ok (.lst (i ++ j)) μ)) Q W → wO X (binaryOp .Add) x y H Q := by
    intro i j e1 e2 h
    obtain ⟨a, xs, rfl, hs, rs⟩ := lst_of R rx e1
    obtain ⟨b, ys, rfl, ht, rt⟩ := lst_of R ry e2
    unfold needs at h
    by_cases hz : i.length + j.length ≤ 16777216
    · rw [if_pos hz] at h
      have rr := rs.append rt
      refine wo op_catL ⟨_, _, _, _, rfl, rfl, hs, ht, ?_, fun p hp => h p (upd H p (.lst (xs ++ ys))) M (xs ++ ys) hp (Evo.new hp) (R.hide hp) upd_same (rr.stay ((Stay.hide hp).trans (Evo.new hp).stay))⟩
      rw [rs.length, rt.length]; exact sl16 hz
    · rw [if_neg hz] at h; exact (h : False).elim
  unfold binD at h
  split at h <;> first
    | (rename_i q; cases q; done)
    | exact (h : False).elim
    | (unfold needs at h; split at h <;> exact (h : False).elim)
    | skip
  split at h
  · rename_i e1 e2; exact go e1 e2 h
  · exact (h : False).elim
theorem sndN_add {a b : Expr} {A B : E} (ha : Snd X ct Γ a A) (hb : Snd X ct Γ b B) : SndN X ct Γ (.BinOp a .Add b pos) (.bin .add A B) := by
  intro W ρ μ σ H M Q tk E R h
  unfold evalE at h
  refine we (pe_op pO pE pE) ?_
  refine ha W ρ μ σ H M _ tk E R (OkN.step R h fun d μ1 v H1 M1 e1 R1 r1 h1 => ?_)
  refine hb W ρ μ1 σ H1 M1 _ tk (E.evo e1) R1 (OkN.step R1 h1 fun d2 μ2 u H2 M2 e2 R2 r2 h2 => ?_)
  exact addN_ok R2 (r1.evo e2) r2 h2
/-- x = e, to be ours -/
theorem sndS_newN {e : Expr} {A : E} (F : FrS X ct tb Γ N sc loc) (hx : x ∈ loc) (hi : N[k]? = some x) (hc : isComp e = false) (ha : SndN X ct Γ e A) : SndS τ X ct Γ (.Assign [.Name x px] e pos') (.new k A) := by
  intro W ρ μ σ H M D tk E R h
  unfold runS at h
  have hN := takeNew E R h
  exact ws (ps_set (by rw [F.f.hN]; exact F.f.nd) (by rw [F.f.hN]; exact hi) (by rw [F.f.hsc]; exact (F.l x hx).1) pE (sw_plain hc) (by rw [F.f.hsc]; exact (F.l x hx).2)) (ha W ρ μ σ H M _ tk E R hN)

/-! ### replace -/
def SndR (X : Cx) (ct : CTab) (Γ : G) (e : Expr) (A : R) : Prop := ∀ (W : WX) (ρ : Rho) (μ : Mu) (σ : St) (H : Hp) (M : AM) (Q : VK), Takes X W → RelE X.K H M σ ρ → RelH X.K ct H μ M →
  Ok X.K ct (RD X.K) M H (evalR Γ A ρ μ) Q (fun c d H' => W c d σ H') → ∀ pins s, 1 ≤ s.toks → Inv X pins σ H s → wpAny (model X.prog X.w) X.A (eval e X.env) (EP X pins σ Q) X.xe s
theorem sndR_base (h : Snd X ct Γ e A) : SndR X ct Γ e (.base A) := fun W ρ μ σ H M Q tk E R k pins s _ I => h W ρ μ σ H M Q tk E R k pins s I
theorem sndR_repl {RA : PyI.R} {y z : Str} {j1 j2 : Nat} {c0 c1 apos : Pos} (h : SndR X ct Γ o RA) (hyz : (y == z) = false) (hp : plainO o = true) (hl : (apos.endLine == pos.line) = true) : SndR X ct Γ (.Call (.Attribute o "replace" apos) [.Constant (.str y) j1 c0, .Constant (.str z) j2 c1] [] pos) (.repl RA y z) := by
  intro W ρ μ σ H M Q tk E R k pins s h0 I
  let to : TE := fun σ H Q => ∀ pins s, 1 ≤ s.toks → Inv X pins σ H s → wpAny (model X.prog X.w) X.A (eval o X.env) (EP X pins σ Q) X.xe s
  have hto : PET X o to := fun pins s σ H Q h0 I q => q pins s h0 I
  refine CwR.pet_replT (to := to) hto hyz rfl (base_plain hp) hl pins s σ H Q h0 I ?_
  unfold evalR at k
  refine h W ρ μ σ H M _ tk E R (k.step fun d μ1 v H1 M1 e1 R1 r1 h1 => ?_)
  unfold replD at h1
  split at h1
  · cases r1
    obtain ⟨hz, h1⟩ := h1.needs
    exact ⟨_, rfl, hz, h1.ret R1 (.str _)⟩
  · exact h1.elim
theorem sndS_setR {RA : PyI.R} (F : FrS X ct tb Γ N sc loc) (hx : x ∈ loc) (hi : N[k]? = some x) (hc : isComp e = false) (he : SndR X ct Γ e RA) : SndS true X ct Γ (.Assign [.Name x px] e pos) (.setR k RA) := by
  intro W ρ μ σ H M D tk E R h
  unfold runS at h
  intro pins s h0 I
  refine wpAny_Assign_Name (thn (he W ρ μ σ H M (fun v H1 => D.nx (σ.set k (some v)) H1) tk E R (h.step E fun d μ1 v H1 M1 e1 R1 r1 h1 => h1.nxt R1 ((E.evo e1).set r1 k)) pins s (h0 rfl) I) fun v s1 ⟨y, H1, I1, r1, q1⟩ => ?_) (sw_plain hc)
  exact store_ok I1 (by rw [F.f.hN]; exact F.f.nd) (by rw [F.f.hN]; exact hi) (by rw [F.f.hsc]; exact (F.l x hx).1) r1 (fun s2 I2 => ⟨_, H1, I2, q1⟩) (by rw [F.f.hsc]; exact (F.l x hx).2)
/-- return 'pre' + e.replace(..).. + 'post' -/
theorem sndS_retR {RA : PyI.R} {pre post : Str} {j1 j2 : Nat} {p1 p2 p3 p4 : Pos} (he : SndR X ct Γ e RA) : SndS true X ct Γ (.Return (some (.BinOp (.BinOp (.Constant (.str pre) j1 p1) .Add e p2) .Add (.Constant (.str post) j2 p3) p4)) pos) (.retR pre RA post) := by
  intro W ρ μ σ H M D tk E R h
  unfold runS at h
  let to : TE := fun σ H Q => ∀ pins s, 1 ≤ s.toks → Inv X pins σ H s → wpAny (model X.prog X.w) X.A (eval e X.env) (EP X pins σ Q) X.xe s
  have hto : PET X e to := fun pins s σ H Q h0 I q => q pins s h0 I
  intro pins s h0 I
  refine CwR.pst_ret (CwR.pet_op op_add_str (CwR.pet_op op_add_str (CwR.PET.of pe_str) hto) (CwR.PET.of pe_str)) pins s σ H D (h0 rfl) I ?_
  show to σ H _
  refine he W ρ μ σ H M _ tk E R (h.step E fun d μ1 v H1 M1 e1 R1 r1 h1 => ?_)
  cases r1 with
  | str z =>
    unfold binD at h1
    simp only at h1
    have h2 : OkS X.K ct M1 H1 ((needs (pre.length + z.length ≤ 16777216) (Res.ok (PyI.D.str (pre ++ z)) μ1) |>.bind fun y μ => binD .add y (.str post) μ).then ρ fun d μ => .rt d μ) D W := h1
    unfold needs at h2
    by_cases hz : pre.length + z.length ≤ 16777216
    · rw [if_pos hz] at h2
      have h3 : OkS X.K ct M1 H1 ((needs ((pre ++ z).length + post.length ≤ 16777216) (Res.ok (PyI.D.str ((pre ++ z) ++ post)) μ1)).then ρ fun d μ => .rt d μ) D W := h2
      unfold needs at h3
      by_cases hz2 : (pre ++ z).length + post.length ≤ 16777216
      · rw [if_pos hz2] at h3
        refine ⟨pre, z, rfl, rfl, sl16 hz, pre ++ z, post, rfl, rfl, sl16 hz2, ?_⟩
        exact (h3 : OkS X.K ct M1 H1 (.rt _ μ1) D W) _ H1 M1 (Evo.refl _ _) R1 (.str _)
      · rw [if_neg hz2] at h3; exact (h3 : False).elim
    · rw [if_neg hz] at h2; exact (h2 : False).elim
  | _ => exact (h1 : False).elim
/-! ### blocks, loops -/
theorem sndB_nil : SndBk τ X ct Γ [] .nil := by
  intro W ρ μ σ H M D tk E R h
  unfold runB at h
  exact fun pins s _ I => pss_nil.run pins s σ H D I (h.nxt R E)
theorem sndB_cons (h1 : SndS τ X ct Γ st SA) (h2 : SndBk τ X ct Γ sts BA) : SndBk τ X ct Γ (st :: sts) (.cons SA BA) := by
  intro W ρ μ σ H M D tk E R h
  unfold runB at h
  intro pins s h0 I
  have key := h1 W ρ μ σ H M { D with nx := wB τ X sts D } tk E R (h.seq rfl rfl rfl fun ρ' μ' σ' H' M' e' R' E' k => h2 W ρ' μ' σ' H' M' D tk E' R' k) pins s h0 I
  refine wpAny_execs_cons (wpAny_mono (PySem.wpAny_toks key) (fun f s1 q => ?_) fun _ _ x => x.2)
  obtain ⟨hk, q⟩ := q
  cases f with
  | next =>
    obtain ⟨σ', H', I', q⟩ := q
    exact q pins s1 (fun t => Nat.le_trans (h0 t) hk) I'
  | ret v => exact q
  | brk => exact q
  | cont => exact q
theorem sndS_if (hc : SndT X ct Γ c t) (ha : SndBk τ X ct Γ sts BA) (hb : SndBk τ X ct Γ body BB) : SndS τ X ct Γ (.If c sts body pos) (.ifs t BA BB) := by
  intro W ρ μ σ H M D tk E R h
  unfold runS at h
  intro pins s h0 I
  have key := hc W ρ μ σ H M (fun k H1 => if k = true then wB τ X sts D σ H1 else wB τ X body D σ H1) tk E R (h.step E fun k μ1 v H1 M1 e1 R1 r1 h1 => by
    cases r1
    cases k with
    | true => exact ha W ρ μ1 σ H1 M1 D tk (E.evo e1) R1 h1
    | false => exact hb W ρ μ1 σ H1 M1 D tk (E.evo e1) R1 h1) pins s I
  refine wpAny_If (wpAny_mono (PySem.wpAny_toks key) (fun d s1 q => ?_) fun _ _ x => x.2)
  obtain ⟨hk, H1, I1, q⟩ := q
  cases d with
  | true => exact q pins s1 (fun t => Nat.le_trans (h0 t) hk) I1
  | false => exact q pins s1 (fun t => Nat.le_trans (h0 t) hk) I1
theorem sndS_while (F : FrS X ct tb Γ N sc loc) (hc : SndT X ct Γ c t) (hb : SndBk τ X ct Γ body BA) : SndS τ X ct Γ (.While c body [] pos) (.whl t BA) := by
  intro W ρ μ σ H M D tk E R h
  unfold runS at h
  intro pins s h0 I
  refine wpAny_While (codeAny_whileLoop (fun n s' => (τ = true → 1 ≤ s'.toks) ∧ ∃ (ρ' : Rho) (μ' : Mu) (σ' : St) (H' : Hp) (M' : AM), Inv X pins σ' H' s' ∧ RelE X.K H' M' σ' ρ' ∧ RelH X.K ct H' μ' M' ∧ OkS X.K ct M' H' (whileLoop (fun ρ μ => evalT Γ t ρ μ) (fun ρ μ => runB Γ BA ρ μ) n ρ' μ') D W) ?_ Γ.wf ⟨h0, ρ, μ, σ, H, M, I, E, R, h⟩)
  rintro n s1 ⟨h01, ρ1, μ1, σ1, H1, M1, I1, E1, R1, k1⟩
  cases n with
  | zero => exact (k1 : False).elim
  | succ n =>
    unfold whileLoop at k1
    have key := hc W ρ1 μ1 σ1 H1 M1 (fun k H2 => if k = true then wB τ X body { D with nx := fun σ' H' => ∃ ρ' μ' M', RelE X.K H' M' σ' ρ' ∧ RelH X.K ct H' μ' M' ∧ OkS X.K ct M' H' (whileLoop (fun ρ μ => evalT Γ t ρ μ) (fun ρ μ => runB Γ BA ρ μ) n ρ' μ') D W, ct := fun σ' H' => ∃ ρ' μ' M', RelE X.K H' M' σ' ρ' ∧ RelH X.K ct H' μ' M' ∧ OkS X.K ct M' H' (whileLoop (fun ρ μ => evalT Γ t ρ μ) (fun ρ μ => runB Γ BA ρ μ) n ρ' μ') D W, bk := D.nx } σ1 H2 else D.nx σ1 H2) tk E1 R1 (k1.step E1 fun k μ2 v H2 M2 e2 R2 r2 k2 => by
      cases r2
      cases k with
      | false => exact k2.nxt R2 (E1.evo e2)
      | true =>
        simp only [if_true] at k2 ⊢
        refine hb W ρ1 μ2 σ1 H2 M2 _ tk (E1.evo e2) R2 ?_
        cases hr : runB Γ BA ρ1 μ2 with
        | nx ρ' μ' => rw [hr] at k2; exact fun σ' H' M' e' R' E' => ⟨ρ', μ', M', E', R', OkS.evo e' k2⟩
        | ct ρ' μ' => rw [hr] at k2; exact fun σ' H' M' e' R' E' => ⟨ρ', μ', M', E', R', OkS.evo e' k2⟩
        | br ρ' μ' => rw [hr] at k2; exact k2
        | rt d μ' => rw [hr] at k2; exact k2
        | er c fs ρ' μ' => rw [hr] at k2; exact k2
        | stuck => rw [hr] at k2; exact k2) pins s1 I1
    refine wpAny_passesOwn F.po (wpAny_mono (PySem.wpAny_toks key) (fun b s2 q => ?_) fun _ _ x => x.2)
    obtain ⟨hk2, H2, I2, q2⟩ := q
    have h02 : τ = true → 1 ≤ s2.toks := fun t => Nat.le_trans (h01 t) hk2
    cases b with
    | true =>
      rw [if_pos rfl]
      simp only [if_true] at q2
      refine wpAny_passesOwn F.po (wpAny_mono (PySem.wpAny_toks (q2 pins s2 h02 I2)) (fun f s3 q3 => ?_) fun _ _ x => x.2)
      obtain ⟨hk3, q3⟩ := q3
      have h03 : τ = true → 1 ≤ s3.toks := fun t => Nat.le_trans (h02 t) hk3
      cases f with
      | next =>
        obtain ⟨σ3, H3, I3, ρ', μ', M', E', R', k'⟩ := q3
        exact ⟨n, Nat.lt_succ_self n, h03, ρ', μ', σ3, H3, M', I3, E', R', k'⟩
      | cont =>
        obtain ⟨σ3, H3, I3, ρ', μ', M', E', R', k'⟩ := q3
        exact ⟨n, Nat.lt_succ_self n, h03, ρ', μ', σ3, H3, M', I3, E', R', k'⟩
      | brk => exact q3
      | ret v => exact q3
    | false =>
      rw [if_neg Bool.false_ne_true]
      exact wpAny_execs_nil ⟨σ1, H2, I2, q2⟩
end
end PyI
/-! A14: for; the resolver of statements; defs. -/
namespace PyI
open PySem L2
section
variable {τ : Bool} {X : Cx} {ct : CTab} {Γ : G} {N loc : List Str} {sc : Scope} {tb : Tb} {iter tg : Expr} {it : IT} {tt : Tg} {pos : Pos} {body : List Stmt} {BA : B}
theorem sndS_for (F : FrS X ct tb Γ N sc loc) (hset : isSet iter = false) (ht : resTg N loc tg = some tt) (hI : SndI X ct Γ tg iter it) (hb : SndBk τ X ct Γ body BA) : SndS τ X ct Γ (.For tg iter body [] pos) (.for_ tt it BA) := by
  intro W ρ μ σ H M D tk E R h
  unfold runS at h
  intro pins s h0 I
  have hg : PG X tg (gOf X.K tt) := tg_ok F.f F.l ht
  have hc := F.f.calm
  have hp := F.po
  generalize hf : (fun (d : PyI.D) (ρ : Rho) (μ : Mu) => match assignT tt d ρ with
      | some ρ' => runB Γ BA ρ' μ
      | none => Out.stuck) = f at h
  have key := hI W ρ μ σ H M (fun J H1 => ∃ (ds : List PyI.D) (src : Option (Nat × List PyI.D)) (μ1 : Mu) (M1 : AM), ItOk X.K ct M1 H1 J (ds, src) ∧ RelE X.K H1 M1 σ ρ ∧ RelH X.K ct H1 μ1 M1 ∧ OkS X.K ct M1 H1 (forLoop f (chkOf src) ds ρ μ1) D W) tk E R (h.step E fun its μ1 J H1 M1 e1 R1 J1 h1 => ⟨its.1, its.2, μ1, M1, J1, E.evo e1, R1, h1⟩) pins s I
  refine wpAny_For (wpAny_mono (PySem.wpAny_toks key) (fun v s1 h1 => wpAny_mono (PySem.wpAny_toks h1.2) (fun itv s2 h2 => ?_) fun _ _ x => x.2) fun _ _ x => x.2) (set_iter hset)
  obtain ⟨hk2, it, fp, tn, J, H2, e, I2, T, st2, f2, ds, src, μ2, M2, J2, E2, R2, k2⟩ := h2
  subst e
  have h02 : τ = true → 1 ≤ s2.toks := fun t => Nat.le_trans (Nat.le_trans (h0 t) h1.1) hk2
  have stat : ∀ {H' : Hp}, (∀ b ∈ fp, H' b = none) → ∀ b ∈ fp, FpOk X pins H' b := fun hn b hb => ⟨hn b hb, (f2 b hb).2⟩
  refine codeAny_forLoop_any (fun n s' => (τ = true → 1 ≤ s'.toks) ∧ ∃ (i : Nat) (ρ' : Rho) (μ' : Mu) (σ' : St) (H' : Hp) (M' : AM), Inv X pins σ' H' s' ∧ tn i s'.heap ∧ (∀ b ∈ fp, H' b = none) ∧ n = ds.length - i ∧ i ≤ ds.length ∧ RelE X.K H' M' σ' ρ' ∧ RelH X.K ct H' μ' M' ∧ Stay M2 H2 M' H' ∧ OkS X.K ct M' H' (forLoop f (chkOf src) (ds.drop i) ρ' μ') D W) ?_ ds.length ⟨h02, 0, ρ, μ2, σ, H2, M2, I2, st2, fun b hb => (f2 b hb).1, rfl, Nat.zero_le _, E2, R2, (Evo.refl _ _).stay, k2⟩
  rintro n s3 ⟨h03, i, ρ3, μ3, σ3, H3, M3, I3, st3, fr3, hn, hi, E3, R3, sty3, k3⟩
  rcases Nat.lt_or_ge i ds.length with hlt | hge
  · -- one more turn
    have hdi : ds[i]? = some ds[i] := List.getElem?_eq_getElem hlt
    rw [List.drop_eq_getElem_cons hlt] at k3
    unfold forLoop at k3
    by_cases hck : chkOf src μ3 = true
    · rw [if_pos hck] at k3
      obtain ⟨go, hy⟩ := J2.go M3 H3 μ3 i ds[i] sty3 R3 hck hdi
      refine wpAny_passesOwn hp (wpAny_mono (PySem.wpAny_toks (T.item X rfl rfl rfl hc i pins s3 σ3 H3 X.xe I3 (stat fr3) st3 go)) (fun r s4 z4 => ?_) fun _ _ x => x.2)
      obtain ⟨hk4, u, hr, h4⟩ := z4
      subst hr
      refine wpAny_passesOwn hp (wpAny_mono (PySem.wpAny_toks h4) (fun _ s5 z5 => ?_) fun _ _ x => x.2)
      obtain ⟨hk5, x, H5, I5, r5, y5, st5, fr5⟩ := z5
      obtain ⟨hH5, rx⟩ := hy x H5 y5
      subst hH5
      have I5' := I5.pinned (stat fr5) (T.obj _ _ st5)
      have hfd : f ds[i] ρ3 μ3 = (match assignT tt ds[i] ρ3 with
        | some ρ' => runB Γ BA ρ' μ3
        | none => Out.stuck) := by rw [← hf]
      rw [hfd] at k3
      cases has : assignT tt ds[i] ρ3 with
      | none => simp only [has] at k3; exact (k3 : False).elim
      | some ρ5 =>
        simp only [has] at k3
        have gq : gOf X.K tt x σ3 H5 (fun σ6 H6 => H6 = H5 ∧ RelE X.K H5 M3 σ6 ρ5) := assign_ok rx E3 has fun σ' E' _ => ⟨rfl, E'⟩
        refine wpAny_passesOwn hp (wpAny_mono (PySem.wpAny_toks (hg.run _ s5 σ3 H5 x u _ I5' r5 gq)) (fun _ s6 z6 => ?_) fun _ _ x => x.2)
        obtain ⟨hk6, σ6, H6, I6, rfl, E6⟩ := z6
        have h06 : τ = true → 1 ≤ s6.toks := fun t => Nat.le_trans (Nat.le_trans (Nat.le_trans (h03 t) hk4) hk5) hk6
        let Nx : St → Hp → Prop := fun σ' H' => ∃ (ρ' : Rho) (μ' : Mu) (M' : AM), RelE X.K H' M' σ' ρ' ∧ RelH X.K ct H' μ' M' ∧ Stay M2 H2 M' H' ∧ OkS X.K ct M' H' (forLoop f (chkOf src) (ds.drop (i + 1)) ρ' μ') D W
        have bodyOk : OkS X.K ct M3 H6 (runB Γ BA ρ5 μ3) { D with nx := Nx, ct := Nx, bk := D.nx } W := by
          cases hr : runB Γ BA ρ5 μ3 with
          | nx ρ' μ' => rw [hr] at k3; exact fun σ' H' M' e' R' E' => ⟨ρ', μ', M', E', R', sty3.trans e'.stay, OkS.evo e' k3⟩
          | ct ρ' μ' => rw [hr] at k3; exact fun σ' H' M' e' R' E' => ⟨ρ', μ', M', E', R', sty3.trans e'.stay, OkS.evo e' k3⟩
          | br ρ' μ' => rw [hr] at k3; exact k3
          | rt d μ' => rw [hr] at k3; exact k3
          | er c fs ρ' μ' => rw [hr] at k3; exact k3
          | stuck => rw [hr] at k3; exact k3
        refine wpAny_passesOwn hp (wpAny_mono (PySem.wpAny_toks (hb W ρ5 μ3 σ6 H6 M3 _ tk E6 R3 bodyOk _ s6 h06 I6)) (fun f' s7 z7 => ?_) fun _ _ x => x.2)
        obtain ⟨hk7, q7⟩ := z7
        have h07 : τ = true → 1 ≤ s7.toks := fun t => Nat.le_trans (h06 t) hk7
        have again : ∀ {σ7 : St} {H7 : Hp}, Inv X (pins ++ pinsAt fp s5.heap) σ7 H7 s7 → Nx σ7 H7 → ∃ m, m < n ∧ (τ = true → 1 ≤ s7.toks) ∧ ∃ (i : Nat) (ρ' : Rho) (μ' : Mu) (σ' : St) (H' : Hp) (M' : AM), Inv X pins σ' H' s7 ∧ tn i s7.heap ∧ (∀ b ∈ fp, H' b = none) ∧ m = ds.length - i ∧ i ≤ ds.length ∧ RelE X.K H' M' σ' ρ' ∧ RelH X.K ct H' μ' M' ∧ Stay M2 H2 M' H' ∧ OkS X.K ct M' H' (forLoop f (chkOf src) (ds.drop i) ρ' μ') D W := fun {σ7 H7} I7 ⟨ρ', μ', M', E', R', sty', k'⟩ => by
          refine ⟨ds.length - (i + 1), by omega, h07, i + 1, ρ', μ', σ7, H7, M', I7.unpinned, T.keep _ _ _ st5 fun b hb o e => (I7.pin (b, o) (List.mem_append_right _ (List.mem_append_right _ (mem_pinsAt hb e)))).1, fun b hb => ?_, rfl, hlt, E', R', sty', k'⟩
          obtain ⟨o, e, d⟩ := T.obj _ _ st5 b hb
          exact (I7.pin (b, o) (List.mem_append_right _ (List.mem_append_right _ (mem_pinsAt hb e)))).2.1
        cases f' with
        | next => obtain ⟨σ7, H7, I7, n7⟩ := q7; exact again I7 n7
        | cont => obtain ⟨σ7, H7, I7, n7⟩ := q7; exact again I7 n7
        | brk => obtain ⟨σ7, H7, I7, q7⟩ := q7; exact ⟨σ7, H7, I7.unpinned, q7⟩
        | ret v => obtain ⟨x7, σ7, H7, I7, r7, q7⟩ := q7; exact ⟨x7, σ7, H7, I7.unpinned, r7, q7⟩
    · rw [if_neg hck] at k3; exact (k3 : False).elim
  · have hie : i = ds.length := Nat.le_antisymm hi hge
    subst hie
    rw [List.drop_length] at k3
    unfold forLoop at k3
    by_cases hck : chkOf src μ3 = true
    · rw [if_pos hck] at k3
      refine wpAny_passesOwn hp (thn (T.done X rfl rfl rfl hc _ pins s3 σ3 H3 X.xe I3 (stat fr3) st3 (J2.stop M3 H3 μ3 sty3 R3 hck)) fun r s4 ⟨hr, I4⟩ => ?_)
      subst hr
      exact wpAny_execs_nil ⟨σ3, H3, I4, k3.nxt R3 E3⟩
    · rw [if_neg hck] at k3; exact (k3 : False).elim
end


/-! ### the resolver of statements -/
structure RS where
  C : RC
  sc : Scope
  loc : List Str
  muts : List Str
  τ : Bool
structure ReplOf where
  o : Expr
  y : Str
  z : Str
  apos : Pos
  pos : Pos
def replOf : Expr → Option ReplOf
  | .Call (.Attribute o m apos) [.Constant (.str y) _ _, .Constant (.str z) _ _] [] pos => if m = "replace" then some ⟨o, y, z, apos, pos⟩ else none
  | _ => none
theorem replOf_eq {e : Expr} {r : ReplOf} (h : replOf e = some r) : ∃ j1 c0 j2 c1, e = .Call (.Attribute r.o "replace" r.apos) [.Constant (.str r.y) j1 c0, .Constant (.str r.z) j2 c1] [] r.pos := by
  unfold replOf at h
  split at h
  · split at h
    · next hm => cases h; rw [hm]; exact ⟨_, _, _, _, rfl⟩
    · cases h
  · cases h
def resR : Nat → RC → Scope → Expr → Option R
  | 0, _, _, _ => none
  | n + 1, C, sc, e => match replOf e with
    | some r => guardO (!(r.y == r.z) && plainO r.o && r.apos.endLine == r.pos.line) ((resR n C sc r.o).map fun q => .repl q r.y r.z)
    | none => (resE n C sc e).map .base
/-- return 'a' + e.replace(..) + 'b' -/
structure RetOf where
  pre : Str
  e : Expr
  post : Str
def retOf : Expr → Option RetOf
  | .BinOp (.BinOp (.Constant (.str a) _ _) .Add e _) .Add (.Constant (.str b) _ _) _ => (replOf e).map fun _ => ⟨a, e, b⟩
  | _ => none
theorem retOf_eq {e : Expr} {r : RetOf} (h : retOf e = some r) : ∃ j1 p1 p2 j2 p3 p4, e = .BinOp (.BinOp (.Constant (.str r.pre) j1 p1) .Add r.e p2) .Add (.Constant (.str r.post) j2 p3) p4 := by
  unfold retOf at h
  split at h
  · obtain ⟨_, _, rfl⟩ := Option.map_eq_some_iff.mp h; exact ⟨_, _, _, _, _, _, rfl⟩
  · cases h
structure CompOf where
  elt : Expr
  tg : Expr
  iter : Expr
  ifs : List Expr
  scope : Scope
  pos : Pos
def compOf : Expr → Option CompOf
  | .ListComp elt [⟨tg, iter, ifs, 0⟩] scope pos => some ⟨elt, tg, iter, ifs, scope, pos⟩
  | _ => none
theorem compOf_eq {e : Expr} {r : CompOf} (h : compOf e = some r) : e = .ListComp r.elt [⟨r.tg, r.iter, r.ifs, 0⟩] r.scope r.pos := by
  unfold compOf at h
  split at h
  · cases h; rfl
  · cases h
def resComp (n : Nat) (C : RC) (sc : Scope) (r : CompOf) : Option (Tg × IT × T × E) :=
  guardO (blkC C.N sc r.scope (ownOf C.N r.scope) && !isSet r.iter) ((resTg C.N ((ownOf C.N r.scope).map Prod.fst) r.tg).bind fun t => guardO ((slotsOf t).all fun i => decide (i ∈ (ownOf C.N r.scope).map Prod.snd)) ((resI n C sc r.iter).bind fun it =>
    (match r.ifs with
      | [] => some T.yes
      | [c] => resT n C (relS r.scope sc) c
      | _ => none).bind fun c => (resE n C (relS r.scope sc) r.elt).map fun e => (t, it, c, e)))
def isLst : Expr → Option (List Expr)
  | .List es _ => some es
  | _ => none
theorem isLst_eq {e : Expr} {es : List Expr} (h : isLst e = some es) : ∃ p, e = .List es p := by
  unfold isLst at h
  split at h
  · cases h; exact ⟨_, rfl⟩
  · cases h
/-- what makes a new list, beside displays and comprehensions -/
def freshOf (n : Nat) (C : RC) (sc : Scope) : Expr → Option E
  | .IfExp c (.List es _) (.List es' _) _ => (resT n C sc c).bind fun T => (resEs n C sc es).bind fun A => (resEs n C sc es').map fun B => .ite T (.lst A) (.lst B)
  | .BinOp a .Add b _ => (resE n C sc a).bind fun A => (resE n C sc b).map fun B => .bin .add A B
  | _ => none
theorem freshOf_ok {X : Cx} {ct : CTab} {Γ : G} {C : RC} {sc : Scope} {n : Nat} {e : Expr} {A : E} (ie : SndAt ct Γ C n) (F : Fr X ct C.tb Γ C.N sc) (h : freshOf n C sc e = some A) : SndN X ct Γ e A ∧ isComp e = false := by
  unfold freshOf at h
  split at h
  · obtain ⟨T1, hT, h⟩ := Option.bind_eq_some_iff.mp h
    obtain ⟨A1, hA, h⟩ := Option.bind_eq_some_iff.mp h
    obtain ⟨B1, hB, rfl⟩ := Option.map_eq_some_iff.mp h
    exact ⟨sndN_ite (ie.t X sc _ _ F hT) (sndN_lst (ie.es X sc _ _ F hA).1) (sndN_lst (ie.es X sc _ _ F hB).1), rfl⟩
  · obtain ⟨A1, hA, h⟩ := Option.bind_eq_some_iff.mp h
    obtain ⟨B1, hB, rfl⟩ := Option.map_eq_some_iff.mp h
    exact ⟨sndN_add (ie.e X sc _ _ F hA) (ie.e X sc _ _ F hB), rfl⟩
  · cases h
def resAug : Operator → Option Bop
  | .Add => some .add
  | .Sub => some .sub
  | _ => none
mutual
def resS : Nat → RS → Stmt → Option S
  | 0, _, _ => none
  | n + 1, c, st => match st with
    | .Assign [.Name x _] e _ => guardO (decide (x ∈ c.loc)) ((ixOf x c.C.N).bind fun k =>
        match replOf e with
        | some _ => guardO c.τ ((resR n c.C c.sc e).map (.setR k))
        | none => match compOf e with
          | some r => (resComp n c.C c.sc r).map fun q => if decide (x ∈ c.muts) then .new k (.comp ((ownOf c.C.N r.scope).map Prod.snd) q.1 q.2.1 q.2.2.1 q.2.2.2) else .set (.nm k) (.comp ((ownOf c.C.N r.scope).map Prod.snd) q.1 q.2.1 q.2.2.1 q.2.2.2)
          | none => if decide (x ∈ c.muts) then (match isLst e with
              | some es => (resEs n c.C c.sc es).map fun As => .new k (.lst As)
              | none => match freshOf n c.C c.sc e with
                | some A => some (.new k A)
                | none => guardO (!isComp e) ((resE n c.C c.sc e).map (.set (.nm k)))) else guardO (!isComp e) ((resE n c.C c.sc e).map (.set (.nm k))))
    | .Assign [.Tuple es _ _] e _ => guardO (!isComp e && !isTup e) ((resNames c.C.N c.loc es).bind fun l => (resE n c.C c.sc e).map (.set (.tp l)))
    | .Assign [.Subscript o i _] v _ => guardO (!isSlc i && !isComp v) ((resE n c.C c.sc o).bind fun A => (resE n c.C c.sc i).bind fun B => (resE n c.C c.sc v).map fun C => .setIx A B C)
    | .AugAssign (.Name x _) op e _ => guardO (decide (x ∈ c.loc)) ((ixOf x c.C.N).bind fun k => (resAug op).bind fun b => (resE n c.C c.sc e).map (.aug k b))
    | .Expr e _ => guardO (!isComp e) ((resE n c.C c.sc e).map .expr)
    | .If t a b _ => (resT n c.C c.sc t).bind fun T => (resB n c a).bind fun A => (resB n c b).map fun B => .ifs T A B
    | .For tg iter body [] _ => guardO (!isSet iter) ((resTg c.C.N c.loc tg).bind fun t => (resI n c.C c.sc iter).bind fun it => (resB n c body).map fun b => .for_ t it b)
    | .While t body [] _ => (resT n c.C c.sc t).bind fun T => (resB n c body).map fun b => .whl T b
    | .Return (some e) _ => (match retOf e with
        | some r => guardO c.τ ((resR n c.C c.sc r.e).map fun q => .retR r.pre q r.post)
        | none => (resE n c.C c.sc e).map .ret)
    | .Return none _ => some .retN
    | .Pass _ => some .pass
    | .Break _ => some .brk
    | .Continue _ => some .cnt
    | .Raise _ _ _ => some .bad
    | _ => none
def resB : Nat → RS → List Stmt → Option B
  | 0, _, _ => none
  | n + 1, c, sts => match sts with
    | [] => some .nil
    | st :: r => (resS n c st).bind fun A => (resB n c r).map fun B => .cons A B
end
section
variable {ct : CTab} {Γ : G} {X : Cx} {c : RS}
theorem resR_ok : ∀ (n : Nat) {X : Cx} {C : RC} {sc : Scope} {e : Expr} {A : R}, Fr X ct C.tb Γ C.N sc → resR n C sc e = some A → SndR X ct Γ e A
  | 0, _, _, _, _, _, _, h => by unfold resR at h; cases h
  | n + 1, X, C, sc, e, A, F, h => by
    unfold resR at h
    split at h
    · next r hr =>
      obtain ⟨j1, c0, j2, c1, rfl⟩ := replOf_eq hr
      obtain ⟨hg, h⟩ := guardO_some h
      simp only [Bool.and_eq_true, Bool.not_eq_true'] at hg
      obtain ⟨q, hq, rfl⟩ := Option.map_eq_some_iff.mp h
      exact sndR_repl (resR_ok n F hq) hg.1.1 hg.1.2 hg.2
    · obtain ⟨q, hq, rfl⟩ := Option.map_eq_some_iff.mp h
      exact sndR_base ((sndAt ct Γ C n).e X sc e q F hq)
theorem comp_parts {n : Nat} {C : RC} {sc : Scope} {r : CompOf} {q : Tg × IT × T × E} (F : Fr X ct C.tb Γ C.N sc) (h : resComp n C sc r = some q) :
    BlkOk C.N sc r.scope (ownOf C.N r.scope) ∧ isSet r.iter = false ∧ resTg C.N ((ownOf C.N r.scope).map Prod.fst) r.tg = some q.1 ∧ (∀ i ∈ slotsOf q.1, i ∈ (ownOf C.N r.scope).map Prod.snd) ∧
      SndI X ct Γ r.tg r.iter q.2.1 ∧ SndTB X ct Γ r.scope r.ifs q.2.2.1 ∧ SndB X ct Γ r.scope r.elt q.2.2.2 := by
  unfold resComp at h
  obtain ⟨hb, h⟩ := guardO_some h
  simp only [Bool.and_eq_true, Bool.not_eq_true'] at hb
  obtain ⟨t, ht, h⟩ := Option.bind_eq_some_iff.mp h
  obtain ⟨hsl, h⟩ := guardO_some h
  obtain ⟨it, hit, h⟩ := Option.bind_eq_some_iff.mp h
  obtain ⟨c, hc, h⟩ := Option.bind_eq_some_iff.mp h
  obtain ⟨A1, hA, rfl⟩ := Option.map_eq_some_iff.mp h
  have ok := blkOk_by hb.1
  have ih := sndAt ct Γ C n
  refine ⟨ok, hb.2, ht, fun i hi => of_decide_eq_true (List.all_eq_true.mp hsl i hi), ih.i X sc _ _ _ F hit, ?_, fun s H C' cl fp => ih.e _ _ _ _ (F.blk ok s H C' cl fp) hA⟩
  split at hc
  · next hq => cases hc; exact .inl ⟨hq, rfl⟩
  · next e hq => exact .inr ⟨_, hq, fun s H C' cl fp => ih.t _ _ _ _ (F.blk ok s H C' cl fp) hc⟩
  · cases hc
theorem resS_ok : ∀ (n : Nat), (∀ {X : Cx} {st : Stmt} {A : S}, FrS X ct c.C.tb Γ c.C.N c.sc c.loc → resS n c st = some A → SndS c.τ X ct Γ st A) ∧ (∀ {X : Cx} {sts : List Stmt} {A : B}, FrS X ct c.C.tb Γ c.C.N c.sc c.loc → resB n c sts = some A → SndBk c.τ X ct Γ sts A)
  | 0 => ⟨fun _ h => by (unfold resS at h; cases h), fun _ h => by (unfold resB at h; cases h)⟩
  | n + 1 => by
    have ih := resS_ok n
    have ie := sndAt ct Γ c.C n
    refine ⟨fun {X st A} F h => ?_, fun {X sts A} F h => ?_⟩
    · unfold resS at h
      split at h
      · -- x = e
        next x px e pos =>
        obtain ⟨hx, h⟩ := guardO_some h
        have hx := of_decide_eq_true hx
        obtain ⟨k, hk, h⟩ := Option.bind_eq_some_iff.mp h
        have hk := ixOf_get hk
        split at h
        · next r hr =>
          obtain ⟨ht, h⟩ := guardO_some h
          obtain ⟨q, hq, rfl⟩ := Option.map_eq_some_iff.mp h
          obtain ⟨j1, c0, j2, c1, he⟩ := replOf_eq hr
          rw [ht]
          exact sndS_setR F hx hk (by rw [he]; rfl) (resR_ok n F.f hq)
        · split at h
          · next r hr =>
            obtain ⟨q, hq, rfl⟩ := Option.map_eq_some_iff.mp h
            obtain ⟨p1, p2, p3, p4, p5, p6, p7⟩ := comp_parts F.f hq
            rw [compOf_eq hr]
            split
            · exact sndS_newC F hx hk p1 p2 p3 p4 p5 p6 p7
            · exact sndS_setC F hx hk p1 p2 p3 p4 p5 p6 p7
          · have plain : ∀ {A : S}, guardO (!isComp e) ((resE n c.C c.sc e).map (S.set (.nm k))) = some A → SndS c.τ X ct Γ (.Assign [.Name x px] e pos) A := fun h => by
              obtain ⟨hc, h⟩ := guardO_some h
              obtain ⟨q, hq, rfl⟩ := Option.map_eq_some_iff.mp h
              exact sndS_set F hx hk (by simpa using hc) (ie.e X c.sc _ _ F.f hq)
            split at h
            · split at h
              · next es hes =>
                obtain ⟨q, hq, rfl⟩ := Option.map_eq_some_iff.mp h
                obtain ⟨p, he⟩ := isLst_eq hes
                rw [he]
                exact sndS_newL F hx hk (ie.es X c.sc _ _ F.f hq).1
              · split at h
                · next A' hA' =>
                  cases h
                  obtain ⟨p1, p2⟩ := freshOf_ok ie F.f hA'
                  exact sndS_newN F hx hk p2 p1
                · exact plain h
            · exact plain h
      · obtain ⟨hc, h⟩ := guardO_some h
        simp only [Bool.and_eq_true, Bool.not_eq_true'] at hc
        obtain ⟨l, hl, h⟩ := Option.bind_eq_some_iff.mp h
        obtain ⟨q, hq, rfl⟩ := Option.map_eq_some_iff.mp h
        exact sndS_tup F hl hc.1 hc.2 (ie.e X c.sc _ _ F.f hq)
      · obtain ⟨hc, h⟩ := guardO_some h
        simp only [Bool.and_eq_true, Bool.not_eq_true'] at hc
        obtain ⟨q1, hq1, h⟩ := Option.bind_eq_some_iff.mp h
        obtain ⟨q2, hq2, h⟩ := Option.bind_eq_some_iff.mp h
        obtain ⟨q3, hq3, rfl⟩ := Option.map_eq_some_iff.mp h
        exact sndS_setIx F hc.1 hc.2 (ie.e X c.sc _ _ F.f hq3) (ie.e X c.sc _ _ F.f hq1) (ie.e X c.sc _ _ F.f hq2)
      · obtain ⟨hx, h⟩ := guardO_some h
        obtain ⟨k, hk, h⟩ := Option.bind_eq_some_iff.mp h
        obtain ⟨b, hb, h⟩ := Option.bind_eq_some_iff.mp h
        obtain ⟨q, hq, rfl⟩ := Option.map_eq_some_iff.mp h
        refine sndS_aug F (of_decide_eq_true hx) (ixOf_get hk) ?_ (ie.e X c.sc _ _ F.f hq)
        unfold resAug at hb
        split at hb
        · cases hb; exact .inl ⟨rfl, rfl⟩
        · cases hb; exact .inr ⟨rfl, rfl⟩
        · cases hb
      · obtain ⟨hc, h⟩ := guardO_some h
        obtain ⟨q, hq, rfl⟩ := Option.map_eq_some_iff.mp h
        exact sndS_expr (by simpa using hc) (ie.e X c.sc _ _ F.f hq)
      · obtain ⟨q1, hq1, h⟩ := Option.bind_eq_some_iff.mp h
        obtain ⟨q2, hq2, h⟩ := Option.bind_eq_some_iff.mp h
        obtain ⟨q3, hq3, rfl⟩ := Option.map_eq_some_iff.mp h
        exact sndS_if (ie.t X c.sc _ _ F.f hq1) (ih.2 F hq2) (ih.2 F hq3)
      · obtain ⟨hs, h⟩ := guardO_some h
        obtain ⟨q1, hq1, h⟩ := Option.bind_eq_some_iff.mp h
        obtain ⟨q2, hq2, h⟩ := Option.bind_eq_some_iff.mp h
        obtain ⟨q3, hq3, rfl⟩ := Option.map_eq_some_iff.mp h
        exact sndS_for F (by simpa using hs) hq1 (ie.i X c.sc _ _ _ F.f hq2) (ih.2 F hq3)
      · obtain ⟨q1, hq1, h⟩ := Option.bind_eq_some_iff.mp h
        obtain ⟨q2, hq2, rfl⟩ := Option.map_eq_some_iff.mp h
        exact sndS_while F (ie.t X c.sc _ _ F.f hq1) (ih.2 F hq2)
      · split at h
        · next r hr =>
          obtain ⟨ht, h⟩ := guardO_some h
          obtain ⟨q, hq, rfl⟩ := Option.map_eq_some_iff.mp h
          obtain ⟨j1, p1, p2, j2, p3, p4, he⟩ := retOf_eq hr
          rw [ht, he]
          exact sndS_retR (resR_ok n F.f hq)
        · obtain ⟨q, hq, rfl⟩ := Option.map_eq_some_iff.mp h
          exact sndS_ret (ie.e X c.sc _ _ F.f hq)
      · cases h; exact sndS_retN
      · cases h; exact sndS_pass
      · cases h; exact sndS_brk
      · cases h; exact sndS_cnt
      · cases h; exact sndS_bad
      · cases h
    · unfold resB at h
      split at h
      · cases h; exact sndB_nil
      · obtain ⟨q1, hq1, h⟩ := Option.bind_eq_some_iff.mp h
        obtain ⟨q2, hq2, rfl⟩ := Option.map_eq_some_iff.mp h
        exact sndB_cons (ih.1 F hq1) (ih.2 F hq2)
end
end PyI
/-! A15: defs keep what the interpreter says. -/
namespace PyI
open PySem L2 PyProof.Rows
structure FnD where
  name : Str
  ps : List Str
  N : List Str
  st : Stmt
  muts : List Str
  τ : Bool
  body : B
def locB (sc : Scope) (x : Str) : Bool := match sc.names.lookup x with
  | some .local => true
  | some .cell => true
  | _ => false
def locOf (sc : Scope) : List Str := (sc.names.map Prod.fst).filter (locB sc)
structure FnD.Ok (tb : Tb) (d : FnD) : Prop where
  res : resB 80 ⟨⟨d.N, tb⟩, defScope d.st, locOf (defScope d.st), d.muts, d.τ⟩ (defBody d.st) = some d.body
  sc : FnScope d.N d.ps (defScope d.st)
  tk : d.τ = true → (∀ y ∈ (defScope d.st).names, y.2 ≠ .cell) ∧ 1 ≤ d.ps.length
def FnD.fn (d : FnD) : Fn := ⟨d.ps.length, d.N.length, d.body⟩
/-- what a law's program gives -/
structure Prg where
  fds : List FnD
  tb : Tb
  con : Nat → Option D
  dic : Nat → List (Str × D)
  wf : Nat
def Prg.tab (p : Prg) : List Fn := p.fds.map FnD.fn
def Prg.G (p : Prg) (k : Nat) : G := ⟨callD p.tab p.con p.dic p.wf k, p.con, p.dic, p.wf⟩
structure Prg.Ok (p : Prg) : Prop where
  fns : p.tb.fns = p.fds.map fun d => (d.name, d.ps.length)
  ok : ∀ d ∈ p.fds, d.Ok p.tb
structure Prg.At (p : Prg) (P : Program) (w : World) (K : PySem.W.Frag) (mg : Str → Option Value) : Prop where
  bi : ∀ x ∈ bins, mg x = none
  con : ∀ g x d, p.tb.cons[g]? = some x → p.con g = some d → ∃ u v, mg x = some u ∧ RelV v u ∧ ∀ H M, Rep K H M v d
  dic : ∀ g x, p.tb.dics[g]? = some x → ∃ d, mg x = some (.ref d) ∧ DicAt K w d (p.dic g)
  fn : ∀ d ∈ p.fds, ∃ a fd qual, Fun K d.name qual d.st a fd ∧ mg d.name = some (.ref a) ∧ ∀ us : List Value, us.length = d.ps.length → bindArgs fd ⟨us, []⟩ = pure (d.ps.zip us)
section
variable {K : PySem.W.Frag} {ct : CTab} {H H' : Hp} {M M' : AM} {μ μ' : Mu} {Q : VK} {W : XK} {v : V} {d : D} {n : Nat}
theorem fin_ok (hn : M.ix.length = n) (h : PyI.Ok K ct (RD K) M H (fin n d μ') Q W) (e : Evo M H M' H') (R : RelH K ct H' μ' M') (r : Rep K H' M' v d) : Q v H' := by
  unfold fin at h
  by_cases h1 : μ'.length = n
  · rw [if_pos h1] at h; exact h v H' M' e R r
  · rw [if_neg h1] at h
    simp only at h
    -- the value, as it is handed back
    have key : ∀ d', (below n d' = true → Rep K H' (M'.cut n) v d') → PyI.Ok K ct (RD K) M H (if below n d' = true ∧ (μ'.take n).all (belowMO n) = true ∧ n ≤ μ'.length then Res.ok d' (μ'.take n) else .ok d μ') Q W → Q v H' := by
      intro d' hr hk
      by_cases h2 : below n d' = true ∧ (μ'.take n).all (belowMO n) = true ∧ n ≤ μ'.length
      · rw [if_pos h2] at hk
        exact hk v H' (M'.cut n) (by rw [← hn]; exact e.cut) (R.cut n h2.2.1) (hr h2.1)
      · rw [if_neg h2] at hk
        exact hk v H' M' e R r
    cases d with
    | ref k =>
      simp only at h
      by_cases h3 : n ≤ k
      · rw [if_pos h3] at h
        cases hk : μ'[k]? with
        | none => simp only [hk] at h; exact key _ (fun q => r.cut n q) h
        | some mo =>
          cases mo with
          | lst l =>
            simp only [hk] at h
            refine key _ (fun q => ?_) h
            cases r with
            | ref ha =>
              obtain ⟨xs, hx, rx⟩ := R.lst hk ha
              refine .lst ⟨.inl hx, fun z => ?_, fun z => (R.exs _ z).2 (List.mem_of_getElem? ha)⟩ (rx.cut n (by simpa only [below] using q))
              -- the place k is cut off
              have z : _ ∈ M'.ix.take n := z
              obtain ⟨j, hj, ej⟩ := List.getElem_of_mem z
              have hjn : j < n := by rw [List.length_take] at hj; omega
              have hjl : j < M'.ix.length := by rw [List.length_take] at hj; omega
              rw [List.getElem_take] at ej
              have e1 : M'.ix[j]? = M'.ix[k]? := by rw [ha, List.getElem?_eq_getElem hjl, ej]
              have := (List.getElem?_inj hjl R.nd).mp e1
              omega
          | dead => simp only [hk] at h; exact key _ (fun q => r.cut n q) h
          | ins _ _ => simp only [hk] at h; exact key _ (fun q => r.cut n q) h
          | dk _ => simp only [hk] at h; exact key _ (fun q => r.cut n q) h
      · rw [if_neg h3] at h; exact key _ (fun q => r.cut n q) h
    | non => exact key _ (fun q => r.cut n q) h
    | bl _ => exact key _ (fun q => r.cut n q) h
    | int _ => exact key _ (fun q => r.cut n q) h
    | str _ => exact key _ (fun q => r.cut n q) h
    | tup _ => exact key _ (fun q => r.cut n q) h
    | lst _ => exact key _ (fun q => r.cut n q) h
    | kl _ => exact key _ (fun q => r.cut n q) h
theorem finO_ok {o : Out} (hn : M.ix.length = n) (h : PyI.Ok K ct (RD K) M H (finO n o) Q W) : OkS K ct M H o { nx := fun _ H' => Q .non H', rt := Q } (fun cls d _ H' => W cls d H') := by
  cases o with
  | nx ρ μ => exact fun σ' H' M' e R E => fin_ok hn h e R .non
  | rt d μ => exact fun v H' M' e R r => fin_ok hn h e R r
  | br ρ μ => exact (h : False).elim
  | ct ρ μ => exact (h : False).elim
  | stuck => exact h
  | er c fs ρ μ =>
    intro cls d σ' H' M' e R E r
    have h : PyI.Ok K ct (RD K) M H (if μ.length = n then .err c fs μ else if belows n fs = true ∧ (μ.take n).all (belowMO n) = true ∧ n ≤ μ.length then .err c fs (μ.take n) else .err c fs μ) Q W := h
    by_cases h1 : μ.length = n
    · rw [if_pos h1] at h; exact h cls d H' M' e R r
    · rw [if_neg h1] at h
      by_cases h2 : belows n fs = true ∧ (μ.take n).all (belowMO n) = true ∧ n ≤ μ.length
      · rw [if_pos h2] at h
        obtain ⟨q1, dx, vs, q2, q3, q4⟩ := r
        exact h cls d H' (M'.cut n) (by rw [← hn]; exact e.cut) (R.cut n h2.2.1) ⟨q1, dx, vs, q2, q3, q4.cut n h2.1⟩
      · rw [if_neg h2] at h; exact h cls d H' M' e R r
theorem start_rel {N : List Str} {vs : List V} {ds : List D} (r : Reps K H M vs ds) : RelE K H M (L2.start N vs) (startR N.length ds) := by
  refine ⟨?_, fun i d h => ?_⟩
  · unfold L2.start startR
    rw [List.length_append, List.length_append, List.length_map, List.length_map, List.length_replicate, List.length_replicate, r.length]
  · unfold startR at h
    unfold L2.start
    rcases Nat.lt_or_ge i ds.length with z | z
    · rw [List.getElem?_append_left (by rw [List.length_map]; exact z), List.getElem?_map] at h
      obtain ⟨d', hd, e⟩ := Option.map_eq_some_iff.mp h
      cases e
      obtain ⟨v, hv, rv⟩ := r.get hd
      rw [List.getElem?_append_left (by rw [List.length_map, r.length]; exact z), List.getElem?_map, hv]
      exact ⟨v, rfl, rv⟩
    · rw [List.getElem?_append_right (by rw [List.length_map]; exact z)] at h
      rw [List.getElem?_replicate] at h
      split at h <;> cases h
end
section
variable {p : Prg} {P : Program} {w : World} {K : PySem.W.Frag} {mg : Str → Option Value} {base : Heap}
theorem call_stuck {f : Nat} {ds : List D} {μ : Mu} {k : Nat} {d : FnD} (hd : p.fds[f]? = some d) (h : ds.length ≠ d.ps.length) : callD p.tab p.con p.dic p.wf k f ds μ = .stuck := by
  cases k with
  | zero => rfl
  | succ k =>
    unfold callD
    have : p.tab[f]? = some d.fn := by unfold Prg.tab; rw [List.getElem?_map, hd]; rfl
    rw [this]
    exact if_neg h
theorem fns_get (ok : p.Ok) {f n : Nat} {x : Str} (h : p.tb.fns[f]? = some (x, n)) : ∃ d, p.fds[f]? = some d ∧ d.name = x ∧ d.ps.length = n := by
  rw [ok.fns, List.getElem?_map] at h
  obtain ⟨d, hd, e⟩ := Option.map_eq_some_iff.mp h
  cases e
  exact ⟨d, hd, rfl, rfl⟩
theorem all_ok (ok : p.Ok) (A0 : p.At P w K mg) (ct : CTab) : ∀ (k f : Nat) (d : FnD) (a : Addr) (fd : FuncData) (qual : Str), p.fds[f]? = some d → Fun K d.name qual d.st a fd → FnOk P w K mg base (L2.CX P w) k a fd d.ps (spF K ct (p.G k) f d.ps.length)
  | 0, f, d, a, fd, qual, hd, F => by
    have no : ∀ vs H Q E, ¬ spF K ct (p.G 0) f d.ps.length vs H Q E := fun vs H Q E h => by
      obtain ⟨ds, μ, M, _, _, _, h⟩ := h
      exact h
    exact ⟨fun vs H Q E h => absurd h (no vs H Q E), fun A outer s H args us vs Q E _ _ _ _ h => absurd h (no vs H Q E)⟩
  | k + 1, f, d, a, fd, qual, hd, F => by
    have ih := all_ok ok A0 ct k
    have dok := ok.ok d (List.mem_of_getElem? hd)
    have hlen : ∀ vs H Q E, spF K ct (p.G (k + 1)) f d.ps.length vs H Q E → vs.length = d.ps.length := fun vs H Q E h => h.choose_spec.choose_spec.choose_spec.1
    have body : ∀ (cdv : Value) (A : Around) (outer : List Env) (s : Shared) (H : Hp) (vs : List V) (Q : VK) (E : XK), Room k (A.deeper (envOfC qual (defScope d.st) s.heap.objs.size a cdv)) → spF K ct (p.G (k + 1)) f d.ps.length vs H Q E →
        wB d.τ (cxOf (L2.CX P w) P w K mg base d.N qual (defScope d.st) a cdv A outer s H E) (defBody d.st) { nx := fun _ H' => Q .non H', rt := Q } (L2.start d.N vs) H := by
      intro cdv A outer s H vs Q E hr h
      obtain ⟨ds, μ, M, hl, R, r, h⟩ := h
      have ht : p.tab[f]? = some d.fn := by unfold Prg.tab; rw [List.getElem?_map, hd]; rfl
      have hdl : ds.length = d.ps.length := by rw [← r.length, hl]
      have h2 : PyI.Ok K ct (RD K) M H (finO μ.length (runB (p.G k) d.body (startR d.N.length ds) μ)) Q E := by
        have e : (p.G (k + 1)).call f ds μ = finO μ.length (runB (p.G k) d.body (startR d.N.length ds) μ) := by
          show callD p.tab p.con p.dic p.wf (k + 1) f ds μ = _
          unfold callD
          rw [ht]
          exact if_pos hdl
        rw [e] at h
        exact h
      let X := cxOf (L2.CX P w) P w K mg base d.N qual (defScope d.st) a cdv A outer s H E
      have fr : FrS X ct p.tb (p.G k) d.N (defScope d.st) (locOf (defScope d.st)) := by
        refine ⟨⟨rfl, rfl, dok.sc.nd, rfl, dok.sc.kind, ⟨hr.units, A0.bi, fun f' x n hf => ?_, fun f' x n ds μ hf hne => ?_, A0.con, A0.dic⟩⟩, fun x hx => ?_, passes_of rfl⟩
        · obtain ⟨d', hd', rfl, rfl⟩ := fns_get ok hf
          obtain ⟨a', fd', q', F', hm, hb⟩ := A0.fn d' (List.mem_of_getElem? hd')
          exact ⟨k, a', fd', d'.ps, ih f' d' a' fd' q' hd' F', hr, hm, F'.kp, .all hb⟩
        · obtain ⟨d', hd', rfl, rfl⟩ := fns_get ok hf
          exact call_stuck hd' hne
        · have hb := (List.mem_filter.mp hx).2
          unfold locB at hb
          refine ⟨?_, .inl rfl⟩
          split at hb
          · next q => exact .inl q
          · next q => exact .inr q
          · cases hb
      exact (resS_ok (c := ⟨⟨d.N, p.tb⟩, defScope d.st, locOf (defScope d.st), d.muts, d.τ⟩) (ct := ct) (Γ := p.G k) 80).2 (X := X) fr dok.res (fun cls d _ H => E cls d H) (startR d.N.length ds) μ (L2.start d.N vs) H M _ (takes_of rfl rfl rfl rfl) (start_rel r) R (finO_ok R.len h2)
    cases ht : d.τ with
    | false =>
      refine F.okX dok.sc hlen (fun cdv A outer s H vs Q E hr h => ?_)
      have b := body cdv A outer s H vs Q E hr h
      rw [ht] at b
      exact ⟨wB false _ _, ⟨fun pins s σ H D I q => q pins s (fun z => by cases z) I⟩, b⟩
    | true =>
      obtain ⟨oc, od, kV, doc, pm, an, cdv, ct', osl, rfl, lk, hcd⟩ := F.ex
      obtain ⟨hnc, hps⟩ := dok.tk ht
      refine fn_ofT lk hcd dok.sc hnc hps hlen fun A outer s H vs Q E hr h => ?_
      have b := body cdv A outer s H vs Q E hr h
      rw [ht] at b
      exact ⟨wB true _ _, fun pins s σ H D h0 I q => q pins s (fun _ => h0) I, b⟩
end
end PyI
/-! A16: a law's end. -/
namespace PyI
open PySem L2
section
variable {K : PySem.W.Frag} {h : Heap} {mg : Str → Option Value} {w : World}
theorem defAt {name qual : Str} {st : Stmt} {ps : List Str} (X : K.In h) (G : h.Ns mainGlobals mg) {f : Addr} {od an : Option Addr} {sl : Array (Option Value)} {oc kV dc pm cd ct : Value}
    (hb : ∀ (kV doc pm : Value) (an : Option Addr) (cdv ct : Value) (us : List Value), us.length = ps.length → bindArgs (PySem.W.fnOf name qual (defArgs st) (defBody st) (defScope st) .none kV doc pm an cdv ct) ⟨us, []⟩ = pure (ps.zip us))
    (a : PySem.W.nsIn K mainGlobals name = some (some (.ref f)))
    (l : K.lookup f = some ⟨oc, od, .func (PySem.W.fnOf name qual (defArgs st) (defBody st) (defScope st) .none kV dc pm an cd ct), sl⟩) (c : PySem.W.codeIn K cd qual = true) (k : PySem.W.keepIn K (.ref f) = true) :
    ∃ a fd q, Fun K name q st a fd ∧ mg name = some (.ref a) ∧ ∀ us : List Value, us.length = ps.length → bindArgs fd ⟨us, []⟩ = pure (ps.zip us) :=
  ⟨f, _, qual, fun_mk l c k, PySem.W.mg_of X G a, hb _ _ _ _ _ _⟩
theorem biAll (X : K.In h) (G : h.Ns mainGlobals mg)
    (z0 : PySem.W.nsIn K mainGlobals "len" = some none)
    (z1 : PySem.W.nsIn K mainGlobals "int" = some none)
    (z2 : PySem.W.nsIn K mainGlobals "str" = some none)
    (z3 : PySem.W.nsIn K mainGlobals "tuple" = some none)
    (z4 : PySem.W.nsIn K mainGlobals "list" = some none)
    (z5 : PySem.W.nsIn K mainGlobals "sorted" = some none)
    (z6 : PySem.W.nsIn K mainGlobals "min" = some none)
    (z7 : PySem.W.nsIn K mainGlobals "max" = some none)
    (z8 : PySem.W.nsIn K mainGlobals "sum" = some none)
    (z9 : PySem.W.nsIn K mainGlobals "any" = some none)
    (z10 : PySem.W.nsIn K mainGlobals "all" = some none)
    (z11 : PySem.W.nsIn K mainGlobals "abs" = some none)
    (z12 : PySem.W.nsIn K mainGlobals "ord" = some none)
    (z13 : PySem.W.nsIn K mainGlobals "bool" = some none)
    (z14 : PySem.W.nsIn K mainGlobals "isinstance" = some none)
    (z15 : PySem.W.nsIn K mainGlobals "range" = some none)
    (z16 : PySem.W.nsIn K mainGlobals "enumerate" = some none)
    (z17 : PySem.W.nsIn K mainGlobals "zip" = some none)
    (z18 : PySem.W.nsIn K mainGlobals "set" = some none)
    (z19 : PySem.W.nsIn K mainGlobals "type" = some none)
    (z20 : PySem.W.nsIn K mainGlobals "reversed" = some none) :
    ∀ x ∈ bins, mg x = none := by
  intro x hx
  simp only [bins, List.mem_cons, List.not_mem_nil, or_false] at hx
  rcases hx with rfl | rfl | rfl | rfl | rfl | rfl | rfl | rfl | rfl | rfl | rfl | rfl | rfl | rfl | rfl | rfl | rfl | rfl | rfl | rfl | rfl
  · exact PySem.W.mg_none_of X G z0
  · exact PySem.W.mg_none_of X G z1
  · exact PySem.W.mg_none_of X G z2
  · exact PySem.W.mg_none_of X G z3
  · exact PySem.W.mg_none_of X G z4
  · exact PySem.W.mg_none_of X G z5
  · exact PySem.W.mg_none_of X G z6
  · exact PySem.W.mg_none_of X G z7
  · exact PySem.W.mg_none_of X G z8
  · exact PySem.W.mg_none_of X G z9
  · exact PySem.W.mg_none_of X G z10
  · exact PySem.W.mg_none_of X G z11
  · exact PySem.W.mg_none_of X G z12
  · exact PySem.W.mg_none_of X G z13
  · exact PySem.W.mg_none_of X G z14
  · exact PySem.W.mg_none_of X G z15
  · exact PySem.W.mg_none_of X G z16
  · exact PySem.W.mg_none_of X G z17
  · exact PySem.W.mg_none_of X G z18
  · exact PySem.W.mg_none_of X G z19
  · exact PySem.W.mg_none_of X G z20
theorem conInt {x : Str} {i : Int} {t : Tok} (X : K.In h) (G : h.Ns mainGlobals mg) (a : PySem.W.nsIn K mainGlobals x = some (some (.int i t))) : ∃ u v, mg x = some u ∧ RelV v u ∧ ∀ H M, Rep K H M v (.int i) := ⟨_, .int i, PySem.W.mg_of X G a, ⟨t, rfl⟩, fun _ _ => .int i⟩
theorem conStr {x : Str} {i : Str} {t : Tok} (X : K.In h) (G : h.Ns mainGlobals mg) (a : PySem.W.nsIn K mainGlobals x = some (some (.str i t))) : ∃ u v, mg x = some u ∧ RelV v u ∧ ∀ H M, Rep K H M v (.str i) := ⟨_, .str i, PySem.W.mg_of X G a, ⟨t, rfl⟩, fun _ _ => .str i⟩
/-- a tuple of ints of the module -/
theorem conTupI {x : Str} {l : List Int} {p : Addr} {o : Obj} {its : Array Value} {n : Nat} (X : K.In h) (G : h.Ns mainGlobals mg) (a : PySem.W.nsIn K mainGlobals x = some (some (.ref p))) (hl : K.lookup p = some o)
    (hc : o.cls = .type "tuple") (hd : o.data = .seq its n) (hz : its.size ≤ sizeLine) (hv : Vals (l.map V.int) its.toList) : ∃ u v, mg x = some u ∧ RelV v u ∧ ∀ H M, Rep K H M v (.tup (l.map D.int)) :=
  ⟨_, .ref p, PySem.W.mg_of X G a, rfl, fun _ _ => .tup (.inr (.inr ⟨o, its, n, hl, hc, hd, hz, hv⟩)) (reps_ints l)⟩
/-- a written dict and its pairs -/
def EntRel (K : PySem.W.Frag) : List DictEntry → List (Str × D) → Prop := Paired fun e p => (∃ t, e.key = .str p.1 t) ∧ ∃ v, RelV v e.val ∧ ∀ H M, Rep K H M v p.2
theorem ent_find {d : Addr} : ∀ {es : List DictEntry} {l : List (Str × D)}, EntRel K es l → ∀ z, match l.lookup z with
    | none => es.find? (·.key.isStr z) = none ∧ es.any (·.refKey) = false
    | some dd => ∃ e v, es.find? (·.key.isStr z) = some e ∧ RelV v e.val ∧ ∀ H M, Rep K H M v dd
  | _, _, .nil, z => ⟨rfl, rfl⟩
  | _, _, .cons (a := e) (b := p) h r, z => by
    obtain ⟨⟨t, ht⟩, v, hv, hr⟩ := h
    have ih := ent_find (d := d) r z
    obtain ⟨x, dd⟩ := p
    by_cases e1 : z = x
    · subst e1
      simp only [List.lookup, beq_self_eq_true]
      refine ⟨e, v, ?_, hv, hr⟩
      rw [List.find?_cons, ht]
      have : (Value.str z t).isStr z = true := by simp [Value.isStr]
      rw [this]
    · have e2 : (z == x) = false := beq_eq_false_iff_ne.mpr e1
      simp only [List.lookup, e2]
      have e3 : e.key.isStr z = false := by rw [ht]; simp [Value.isStr]; exact fun q => e1 q.symm
      have e4 : e.refKey = false := by unfold DictEntry.refKey; rw [ht]
      rw [List.find?_cons, e3, List.any_cons, e4]
      simpa using ih
theorem dicAt {d : Addr} {es : Array DictEntry} {n : Nat} {l : List (Str × D)} {x : Str} (X : K.In h) (G : h.Ns mainGlobals mg) (a : PySem.W.nsIn K mainGlobals x = some (some (.ref d))) (lk : K.lookup d = some ⟨.type "dict", none, .dict es n, #[]⟩)
    (lit : PySem.W.KeysLit w.params es.toList) (low : (d == sysModules) = false) (er : EntRel K es.toList l) : ∃ d, mg x = some (.ref d) ∧ DicAt K w d l := by
  refine ⟨d, PySem.W.mg_of X G a, es, n, ⟨lk, lit, low⟩, fun z => ?_⟩
  have q := ent_find (d := d) er z
  cases hz : l.lookup z with
  | none =>
    rw [hz] at q
    show PySem.W.nsIn K d z = some none
    unfold PySem.W.nsIn
    rw [lk]
    simp only [q.1, q.2, Bool.false_eq_true, if_false]
  | some dd =>
    rw [hz] at q
    obtain ⟨e, v, q1, q2, q3⟩ := q
    refine ⟨e.val, v, ?_, q2, q3⟩
    unfold PySem.W.nsIn
    rw [lk]
    simp only [q1]
end
/-- a def called law, of one argument -/
theorem law_fn {p : Prg} {P : Program} {w : World} {K : PySem.W.Frag} {mg : Str → Option Value} (ok : p.Ok) (A0 : p.At P w K mg) (ct : CTab) {fa : Addr} {f : Nat} {d : FnD} (hfa : mg "law" = some (.ref fa)) (hd : p.fds[f]? = some d) (hn : d.name = "law") (hps : d.ps = [("script" : Str)]) (k : Nat) :
    ∃ fd : FuncData, (∀ (s : Shared) (v : Value), BindsTo s fd ⟨[v], []⟩ [("script", v)]) ∧ ∀ base : Heap, FnOk P w K mg base (L2.CX P w) k fa fd ["script"] (spF K ct (p.G k) f 1) := by
  obtain ⟨a, fd, q, F, hm, hb⟩ := A0.fn d (List.mem_of_getElem? hd)
  rw [hn, hfa] at hm
  cases hm
  refine ⟨fd, fun s v => .of_eq (by have := hb [v] (by rw [hps]; rfl); rw [hps] at this; exact this), fun base => ?_⟩
  have := all_ok (base := base) ok A0 ct k f d fa fd q hd F
  rw [hps] at this
  exact this
theorem law_walk {p : Prg} {ct : CTab} {f kk : Nat} {l : PySem.W.OpenLaw} {q : Program} {loose : List Str} {XP : (Str → Option Value) → Heap → Prop} {YP : World → Heap → Prop} {d : DefRec} {K : Params → PySem.W.Frag} (hn : l.most = some 63) (hdf : d.params.defaults = []) (hr : Room kk callerA)
    (hY : ∀ (w : World) (h : Heap), YP w h → (K w.params).In h)
    (main : ∀ ns : List Int, ns.length ≤ 63 → ∃ μ', callD p.tab p.con p.dic p.wf kk f [.kl (ns.map D.int)] [] = .ok (.bl true) μ')
    (F : ∀ (w : World) (mg : Str → Option Value) (fa : Addr) (h : Heap), (K w.params).In h → h.Ns mainGlobals mg → mg d.name = some (.ref fa) →
      ∃ fd : FuncData, (∀ (s : Shared) (u : Value), BindsTo s fd ⟨[u], []⟩ [("script", u)]) ∧ ∀ base : Heap, FnOk l.prog w (K w.params) mg base (L2.CX l.prog w) kk fa fd ["script"] (spF (K w.params) ct (p.G kk) f 1)) :
    PySem.W.WalkO q loose XP YP l.row.toRowW d [] (fun f vs => PySem.call f vs) := by
  refine L2.walk_of (n := 63) (k := kk) (x := "script") (CX := fun w => L2.CX l.prog w) (sp := fun w => spF (K w.params) ct (p.G kk) f 1) hn (by decide) hdf hr hY (fun w mg fa h a b c => ?_) (fun w H a ns hl _ hS => ?_) fun w H s e s' z => ?_
  · obtain ⟨fd, h1, h2⟩ := F w mg fa h a b c
    exact ⟨fd, h1, fun base _ _ => h2 base⟩
  · obtain ⟨μ', hm⟩ := main ns hl
    refine ⟨[.kl (ns.map D.int)], [], ⟨[], []⟩, rfl, ⟨rfl, by show ([] : List Addr).Nodup; simp, fun n mo q => (by simp at q), fun a q => (by cases q)⟩, ?_, ?_⟩
    · refine .cons (.kl (xs := ns.map V.int) ?_ ?_) .nil
      · rcases hS with z | z
        · exact .inl ⟨z, ⟨fun q => (by cases q), fun q => (by cases q)⟩⟩
        · exact .inr (.inr z)
      · clear hl hS hm
        induction ns with
        | nil => exact .nil
        | cons n ns ih => exact .cons (.int n) ih
    · have e : (p.G kk).call f [.kl (ns.map D.int)] [] = .ok (.bl true) μ' := hm
      rw [e]
      intro v H' M' _ _ r
      cases r
      rfl
  · obtain ⟨_, _, _, _, _, _, _, _, _, _, _, _, x⟩ := z
    exact x
end PyI
/-! A17: texts as lists of codes; small facts of the interpreter. -/
namespace PyI
open PySem L2
def tx (l : List Nat) : Str := ⟨l.toArray⟩
theorem tx_l (l : List Nat) : (tx l).cps.toList = l := rfl
theorem tx_len (l : List Nat) : (tx l).length = l.length := by simp [tx, Str.length]
theorem tx_ext {x : Str} {l : List Nat} (h : x.cps.toList = l) : x = tx l := TL.ext_tl h
theorem tx_self (x : Str) : x = tx x.cps.toList := TL.ext_tl rfl
theorem tx_inj {a b : List Nat} : (tx a = tx b) ↔ a = b := ⟨fun h => congrArg (fun x : Str => x.cps.toList) h, fun h => by rw [h]⟩
theorem tx_add (a b : List Nat) : tx a ++ tx b = tx (a ++ b) := TL.ext_tl (by rw [TL.tl_append]; rfl)
theorem tx_beq (a b : List Nat) : (tx a == tx b) = (a == b) := by
  by_cases h : a = b
  · subst h; simp
  · rw [beq_eq_false_iff_ne.mpr h, beq_eq_false_iff_ne.mpr (fun e => h (tx_inj.mp e))]
theorem tx_all (l : List Nat) (p : Nat → Bool) : (tx l).cps.all p = l.all p := by simp [tx]
/-- a cut at numbers -/
theorem tx_cut (l : List Nat) {i j : Int} (a b : Nat) (hi : i = a) (hj : j = b) : cutS (tx l) (some i) (some j) = tx ((l.drop a).take (b - a)) := by
  subst hi hj
  refine tx_ext ?_
  show (l.drop _).take _ = _
  rw [HT.sIx_nat, HT.sIx_nat, tx_len]
  by_cases ha : a ≤ l.length
  · rw [Nat.min_eq_left ha]
    by_cases hb : b ≤ l.length
    · rw [Nat.min_eq_left hb]
    · rw [Nat.min_eq_right (by omega), List.take_of_length_le (by simp), List.take_of_length_le (by simp; omega)]
  · rw [List.drop_eq_nil_of_le (by omega), List.drop_eq_nil_of_le (by omega), List.take_nil, List.take_nil]
/-- text[at:at+1] -/
theorem cut_at (p : List Nat) (c : Nat) (r : List Nat) {i j : Int} (hi : i = p.length) (hj : j = p.length + 1) : cutS (tx (p ++ c :: r)) (some i) (some j) = tx [c] := by
  rw [tx_cut _ p.length (p.length + 1) hi (by omega)]
  simp
theorem cut_mid (p q r : List Nat) {i j : Int} (hi : i = p.length) (hj : j = p.length + q.length) : cutS (tx (p ++ (q ++ r))) (some i) (some j) = tx q := by
  rw [tx_cut _ p.length (p.length + q.length) hi (by omega)]
  simp
theorem cut_end (p : List Nat) {i j : Int} (hi : i = p.length) (hj : j = p.length + 1) : cutS (tx p) (some i) (some j) = tx [] := by
  rw [tx_cut _ p.length (p.length + 1) hi (by omega)]
  simp
theorem tx_in (c : Nat) (l : List Nat) : (!(Builtin.Str.occurrences (tx l) (tx [c]) 0 (tx l).length 1).isEmpty) = decide (c ∈ l) := PySem.StrLaws.found_one (tx l) c
theorem tx_repl (l y z : List Nat) (hy : y ≠ []) : Txt.replace (tx l) (tx y) (tx z) = tx (StrLaws.replL y z l) := tx_ext (StrLaws.replace_list (by
  rw [tx_len]
  cases y with
  | nil => exact absurd rfl hy
  | cons => simp))
theorem tx_join (y : List Nat) (ps : List (List Nat)) : Txt.join (tx y) (ps.map tx) = tx (TL.joinL y ps) := by
  refine tx_ext ?_
  rw [TL.join_eq]
  refine (TL.tl_join (tx y) (ps.map tx)).trans ?_
  rw [List.map_map]
  show TL.joinL y (ps.map (TL.tl ∘ tx)) = _
  congr 1
  exact List.map_id _
theorem tx_split (l y : List Nat) (hy : y ≠ []) (hk : y.all (· < 256) = true) : Txt.split (tx l) (tx y) = (TL.spl y 0 [] l).map tx := by
  refine TL.map_tl_inj ?_
  rw [TL.split_spl _ _ hy (TL.kind_ok (by rw [tx_all]; exact hk)), List.map_map]
  exact (List.map_id _).symm
theorem tx_find (a b r : List Nat) (c : Nat) {i : Int} (hi : i = a.length) (h : c ∉ b) : Txt.find3 (tx (a ++ (b ++ c :: r))) (tx [c]) i = ((a.length + b.length : Nat) : Int) := by
  have fi : fromIndex (tx (a ++ (b ++ c :: r))).length i = a.length := by
    subst hi
    unfold fromIndex
    rw [if_neg (by omega)]
    omega
  have g : ∀ v, (tx (a ++ (b ++ c :: r))).cps.getD v 0 = (a ++ (b ++ c :: r)).getD v 0 := fun v => by simp [tx]
  have hit : (a ++ (b ++ c :: r)).getD (a.length + b.length) 0 = c := by
    rw [← List.append_assoc]
    simp [List.getD]
  have low : ∀ v, a.length ≤ v → v < a.length + b.length → (a ++ (b ++ c :: r)).getD v 0 ≠ c := fun v h1 h2 e => by
    rw [List.getD, List.getElem?_append_right h1, List.getElem?_append_left (by omega), List.getElem?_eq_getElem (by omega)] at e
    exact h (e ▸ List.getElem_mem _)
  rcases StrLaws.find3_spec (tx (a ++ (b ++ c :: r))) c i with ⟨h1, hn⟩ | ⟨k, h1, hlo, hlt, hk, hn⟩
  · refine absurd ((g _).trans hit) (hn _ (by rw [fi]; omega) (by rw [tx_len]; simp))
  · rw [fi] at hlo hn
    have e : k = a.length + b.length := by
      rcases Nat.lt_trichotomy k (a.length + b.length) with q | q | q
      · exact absurd ((g k).symm.trans hk) (low k hlo q)
      · exact q
      · exact absurd ((g _).trans hit) (hn _ (by omega) q)
    rw [← e]
    exact h1

/-! ### the numbers' texts -/
/-- the codes of a number -/
def intL : Int → List Nat
  | .ofNat n => TL.numL n
  | .negSucc n => 45 :: TL.numL (n + 1)
theorem tx_int (i : Int) : (Str.ofString (toString i) : Str) = tx (intL i) := by
  cases i with
  | ofNat n => exact tx_ext (TL.tl_num n)
  | negSucc n =>
    refine tx_ext ?_
    have e : toString (Int.negSucc n) = "-" ++ toString ((n + 1 : Nat) : Int) := rfl
    rw [e]
    show TL.tl (Str.ofString ("-" ++ _)) = _
    rw [TL.tl_ofString, String.toList_append, List.map_append, ← TL.tl_ofString (toString ((n + 1 : Nat) : Int)), TL.tl_num]
    rfl
theorem int_back (i : Int) (h : (intL i).length ≤ 640) : intText? (tx (intL i)) = some i := by
  cases i with
  | ofNat n =>
    rw [← tx_int]
    exact TL.int_num (show (intL (Int.ofNat n)).length ≤ 4300 by omega)
  | negSucc n =>
    rw [intText_neg (cs := TL.numL (n + 1)) rfl (TL.numL_digits _) (TL.numL_ne _) (by rw [tx_len]; omega), TL.numL_val]
    rfl

/-! ### heaps -/
theorem fin_same {d : D} {μ : Mu} {n : Nat} (h : μ.length = n) : fin n d μ = .ok d μ := if_pos h
mutual
/-- no references -/
def pureD : D → Bool
  | .ref _ => false
  | .tup l => pureDs l
  | .lst l => pureDs l
  | .kl l => pureDs l
  | _ => true
def pureDs : List D → Bool
  | [] => true
  | d :: ds => pureD d && pureDs ds
end
mutual
theorem pureD.below (n : Nat) : ∀ {d : D}, pureD d = true → below n d = true
  | .non, _ | .bl _, _ | .int _, _ | .str _, _ => rfl
  | .ref _, h => by cases h
  | .tup l, h => pureDs.belows n (l := l) h
  | .lst l, h => pureDs.belows n (l := l) h
  | .kl l, h => pureDs.belows n (l := l) h
theorem pureDs.belows (n : Nat) : ∀ {l : List D}, pureDs l = true → belows n l = true
  | [], _ => rfl
  | d :: l, h => by
    simp only [pureDs, Bool.and_eq_true] at h
    simp only [PyI.belows, Bool.and_eq_true]
    exact ⟨pureD.below n h.1, pureDs.belows n h.2⟩
end
theorem pureDs_append : ∀ {l m : List D}, pureDs (l ++ m) = (pureDs l && pureDs m)
  | [], m => by simp [pureDs]
  | d :: l, m => by simp [pureDs, pureDs_append, Bool.and_assoc]
theorem pureDs_map {α : Type} {f : α → D} (h : ∀ a, pureD (f a) = true) : ∀ l : List α, pureDs (l.map f) = true
  | [] => rfl
  | a :: l => by simp [pureDs, h a, pureDs_map h l]
/-- a heap of lists without references -/
def PureM (μ : Mu) : Prop := ∀ m ∈ μ, ∃ l, m = .lst l ∧ pureDs l = true
theorem PureM.all {μ : Mu} (h : PureM μ) (n : Nat) : μ.all (belowMO n) = true := List.all_eq_true.mpr fun m hm => by
  obtain ⟨l, rfl, hl⟩ := h m hm
  exact pureDs.belows n hl
theorem PureM.snoc {μ : Mu} (h : PureM μ) {l : List D} (hl : pureDs l = true) : PureM (μ ++ [.lst l]) := fun m hm => by
  rcases List.mem_append.mp hm with q | q
  · exact h m q
  · exact ⟨l, List.mem_singleton.mp q, hl⟩
/-- one list of its own was made, and is forgotten -/
theorem fin_one {d : D} {μ : Mu} {l : MO} (h : PureM μ) (hd : pureD d = true) : fin μ.length d (μ ++ [l]) = .ok d μ := by
  have hb := pureD.below μ.length hd
  have hm : ((μ ++ [l]).take μ.length).all (belowMO μ.length) = true := by rw [List.take_left']; exact h.all _; rfl
  have ht : (μ ++ [l]).take μ.length = μ := List.take_left' rfl
  unfold fin
  rw [if_neg (by simp)]
  cases d with
  | ref k => cases hd
  | _ =>
    simp only []
    rw [if_pos ⟨hb, hm, by simp⟩, ht]
/-- one list of its own was made, and is handed back -/
theorem fin_ret {μ : Mu} {l : List D} (h : PureM μ) (hd : pureDs l = true) : fin μ.length (.ref μ.length) (μ ++ [.lst l]) = .ok (.lst l) μ := by
  unfold fin
  rw [if_neg (by simp)]
  have e : (μ ++ [MO.lst l])[μ.length]? = some (.lst l) := by simp
  simp only [e, Nat.le_refl, if_true]
  rw [if_pos ⟨pureDs.belows _ hd, by rw [List.take_left']; exact h.all _; rfl, by simp⟩, List.take_left']
  rfl
theorem snoc_get {μ : Mu} {m : MO} : (μ ++ [m])[μ.length]? = some m := by simp
theorem snoc_set {μ : Mu} {m m' : MO} : (μ ++ [m]).set μ.length m' = μ ++ [m'] := by simp

/-! ### stepping: only what stands first is looked at -/
theorem bind_ok {α β : Type} {a : α} {μ : Mu} {f : α → Mu → Res β} : (Res.ok a μ).bind f = f a μ := rfl
theorem then_ok {α : Type} {a : α} {μ : Mu} {ρ : Rho} {f : α → Mu → Out} : (Res.ok a μ).then ρ f = f a μ := rfl
theorem next_nx {ρ : Rho} {μ : Mu} {f : Rho → Mu → Out} : (Out.nx ρ μ).next f = f ρ μ := rfl
theorem next_rt {d : D} {μ : Mu} {f : Rho → Mu → Out} : (Out.rt d μ).next f = .rt d μ := rfl
theorem next_br {ρ : Rho} {μ : Mu} {f : Rho → Mu → Out} : (Out.br ρ μ).next f = .br ρ μ := rfl
theorem next_ct {ρ : Rho} {μ : Mu} {f : Rho → Mu → Out} : (Out.ct ρ μ).next f = .ct ρ μ := rfl
theorem finO_rt {n : Nat} {d : D} {μ : Mu} : finO n (.rt d μ) = fin n d μ := rfl
theorem finO_nx {n : Nat} {ρ : Rho} {μ : Mu} : finO n (.nx ρ μ) = fin n .non μ := rfl

theorem run_nx {Γ : G} {s : PyI.S} {b : B} {ρ ρ' : Rho} {μ μ' : Mu} {o : Out} (h : runS Γ s ρ μ = .nx ρ' μ') (h2 : runB Γ b ρ' μ' = o) : runB Γ (.cons s b) ρ μ = o := by
  rw [runB, h]
  exact h2
theorem run_rt {Γ : G} {s : PyI.S} {b : B} {ρ : Rho} {μ μ' : Mu} {d : D} (h : runS Γ s ρ μ = .rt d μ') : runB Γ (.cons s b) ρ μ = .rt d μ' := by
  rw [runB, h]
  rfl
theorem for_rng {f : D → Rho → Mu → Out} {lo : Int} (I : Nat → Rho → Mu → Prop) : ∀ (m n : Nat) {ρ : Rho} {μ : Mu}, I n ρ μ →
    (∀ i, n ≤ i → i < n + m → ∀ ρ μ, I i ρ μ → (∃ ρ' μ', f (.int (lo + (i : Int))) ρ μ = .nx ρ' μ' ∧ I (i + 1) ρ' μ') ∨ (∃ ρ' μ', f (.int (lo + (i : Int))) ρ μ = .br ρ' μ' ∧ I (n + m) ρ' μ')) →
    ∃ ρ' μ', forLoop f (chkOf none) ((List.range' n m).map fun (i : Nat) => D.int (lo + (i : Int))) ρ μ = .nx ρ' μ' ∧ I (n + m) ρ' μ'
  | 0, n, ρ, μ, h0, _ => ⟨ρ, μ, rfl, h0⟩
  | m + 1, n, ρ, μ, h0, hs => by
    rw [List.range'_succ, List.map_cons]
    unfold forLoop
    rw [if_pos (show chkOf none μ = true from rfl)]
    rcases hs n (Nat.le_refl _) (by omega) ρ μ h0 with ⟨ρ', μ', e, h1⟩ | ⟨ρ', μ', e, h1⟩
    · rw [e]
      have r := for_rng I m (n + 1) h1 fun i h2 h3 ρ μ hi => by
        have z := hs i (by omega) (by omega) ρ μ hi
        rw [show n + (m + 1) = n + 1 + m by omega] at z
        exact z
      rw [show n + (m + 1) = n + 1 + m by omega]
      exact r
    · rw [e]
      exact ⟨ρ', μ', rfl, h1⟩
/-- for k in range(lo, lo + n) -/
theorem for_range {f : D → Rho → Mu → Out} {lo : Int} {n : Nat} {ρ : Rho} {μ : Mu} (I : Nat → Rho → Mu → Prop) (h0 : I 0 ρ μ)
    (hs : ∀ i, i < n → ∀ ρ μ, I i ρ μ → (∃ ρ' μ', f (.int (lo + (i : Int))) ρ μ = .nx ρ' μ' ∧ I (i + 1) ρ' μ') ∨ (∃ ρ' μ', f (.int (lo + (i : Int))) ρ μ = .br ρ' μ' ∧ I n ρ' μ')) :
    ∃ ρ' μ', forLoop f (chkOf none) (rngD lo n) ρ μ = .nx ρ' μ' ∧ I n ρ' μ' := by
  have r := for_rng (f := f) (lo := lo) I n 0 h0 (fun i _ h3 ρ μ hi => by
    have z := hs i (by omega) ρ μ hi
    rw [Nat.zero_add]
    exact z)
  rw [Nat.zero_add] at r
  unfold rngD
  rw [List.range_eq_range']
  exact r
/-- a comprehension whose items change nothing -/
theorem comp_map {f : D → Mu → Res (Option D)} {g : D → D} {μ : Mu} : ∀ {ds acc : List D}, (∀ d ∈ ds, f d μ = .ok (some (g d)) μ) → acc.length + ds.length ≤ 16777216 → compLoop f (chkOf none) acc ds μ = .ok (acc ++ ds.map g) μ
  | [], acc, _, _ => by
    unfold compLoop
    rw [if_pos (show chkOf none μ = true from rfl), List.map_nil, List.append_nil]
  | d :: ds, acc, h, hl => by
    rw [List.length_cons] at hl
    unfold compLoop
    rw [if_pos (show chkOf none μ = true from rfl), h d (List.mem_cons_self ..)]
    simp only []
    rw [needs_pos (by omega), comp_map (fun e he => h e (List.mem_cons_of_mem _ he)) (by simp; omega)]
    simp
theorem comp_inv {f : D → Mu → Res (Option D)} (I : Mu → Prop) (P : D → Prop) : ∀ {ds acc : List D} {μ : Mu}, (∀ d ∈ ds, ∀ μ, I μ → ∃ y μ', f d μ = .ok (some y) μ' ∧ P y ∧ I μ') → acc.length + ds.length ≤ 16777216 →
    (∀ y ∈ acc, P y) → I μ → ∃ l μ', compLoop f (chkOf none) acc ds μ = .ok l μ' ∧ (∀ y ∈ l, P y) ∧ l.length = acc.length + ds.length ∧ I μ'
  | [], acc, μ, _, _, ha, hi => by
    unfold compLoop
    rw [if_pos (show chkOf none μ = true from rfl)]
    exact ⟨acc, μ, rfl, ha, rfl, hi⟩
  | d :: ds, acc, μ, h, hl, ha, hi => by
    rw [List.length_cons] at hl
    obtain ⟨y, μ', e, hy, hi'⟩ := h d (List.mem_cons_self ..) μ hi
    unfold compLoop
    rw [if_pos (show chkOf none μ = true from rfl), e]
    simp only []
    rw [needs_pos (by omega)]
    obtain ⟨l, μ2, r1, r2, r3, r4⟩ := comp_inv I P (ds := ds) (acc := acc ++ [y]) (μ := μ') (fun e he => h e (List.mem_cons_of_mem _ he)) (by simp; omega) (fun z hz => by
      rcases List.mem_append.mp hz with q | q
      · exact ha z q
      · rw [List.mem_singleton.mp q]; exact hy) hi'
    refine ⟨l, μ2, r1, r2, ?_, r4⟩
    rw [r3]
    simp
    omega
theorem strs_map (l : List Str) : strsOf (l.map D.str) = some l := by
  induction l with
  | nil => rfl
  | cons a l ih => simp only [List.map_cons, strsOf, ih]; rfl
theorem for_inv {f : D → Rho → Mu → Out} (I : List D → Rho → Mu → Prop) : ∀ {ds : List D} {ρ : Rho} {μ : Mu}, I ds ρ μ →
    (∀ d ds ρ μ, I (d :: ds) ρ μ → ∃ ρ' μ', f d ρ μ = .nx ρ' μ' ∧ I ds ρ' μ') → ∃ ρ' μ', forLoop f (chkOf none) ds ρ μ = .nx ρ' μ' ∧ I [] ρ' μ'
  | [], ρ, μ, h, _ => ⟨ρ, μ, by unfold forLoop; rw [if_pos (show chkOf none μ = true from rfl)], h⟩
  | d :: ds, ρ, μ, h, hs => by
    obtain ⟨ρ', μ', e, h1⟩ := hs d ds ρ μ h
    unfold forLoop
    rw [if_pos (show chkOf none μ = true from rfl), e]
    exact for_inv I h1 hs
/-- m more rounds -/
theorem whl_inv {c : Rho → Mu → Res Bool} {f : Rho → Mu → Out} (I : Nat → Rho → Mu → Prop) (hs : ∀ m ρ μ, I (m + 1) ρ μ → c ρ μ = .ok true μ ∧ ∃ ρ' μ', f ρ μ = .nx ρ' μ' ∧ I m ρ' μ') (h0 : ∀ ρ μ, I 0 ρ μ → c ρ μ = .ok false μ) :
    ∀ {m n : Nat} {ρ : Rho} {μ : Mu}, m < n → I m ρ μ → ∃ ρ' μ', whileLoop c f n ρ μ = .nx ρ' μ' ∧ I 0 ρ' μ'
  | m, 0, _, _, h, _ => absurd h (Nat.not_lt_zero _)
  | 0, n + 1, ρ, μ, _, hi => ⟨ρ, μ, by
    unfold whileLoop
    rw [h0 _ _ hi]
    rfl, hi⟩
  | m + 1, n + 1, ρ, μ, h, hi => by
    obtain ⟨e, ρ', μ', e2, h1⟩ := hs m ρ μ hi
    unfold whileLoop
    rw [e]
    show ∃ a b, (match f ρ μ with
      | .nx ρ' μ' => whileLoop c f n ρ' μ'
      | .ct ρ' μ' => whileLoop c f n ρ' μ'
      | .br ρ' μ' => .nx ρ' μ'
      | o => o) = .nx a b ∧ _
    rw [e2]
    exact whl_inv I hs h0 (Nat.lt_of_succ_lt_succ h) h1
theorem lt_one (a b : Nat) : ltS (tx [a]) (tx [b]) = decide (a < b) := by
  unfold ltS
  rw [tx_l, tx_l]
  refine decide_eq_decide.mpr ?_
  rw [List.cons_lt_cons_iff]
  constructor
  · rintro (h | ⟨_, h⟩)
    · exact h
    · exact absurd h (List.not_lt_nil _)
  · exact Or.inl
theorem lt_none (b : Nat) : ltS (tx []) (tx [b]) = true := by
  unfold ltS
  rw [tx_l, tx_l]
  exact decide_eq_true (List.nil_lt_cons _ _)
theorem tyf : (Ty.str == Ty.str) = true ∧ (Ty.str == Ty.int) = false ∧ (Ty.str == Ty.bool) = false ∧ (Ty.str == Ty.tuple) = false ∧ (Ty.str == Ty.list) = false ∧ (Ty.int == Ty.str) = false ∧ (Ty.int == Ty.int) = true ∧ (Ty.int == Ty.bool) = false ∧ (Ty.int == Ty.tuple) = false ∧ (Ty.int == Ty.list) = false ∧ (Ty.bool == Ty.str) = false ∧ (Ty.bool == Ty.int) = false ∧ (Ty.bool == Ty.bool) = true ∧ (Ty.bool == Ty.tuple) = false ∧ (Ty.bool == Ty.list) = false ∧ (Ty.tuple == Ty.str) = false ∧ (Ty.tuple == Ty.int) = false ∧ (Ty.tuple == Ty.bool) = false ∧ (Ty.tuple == Ty.tuple) = true ∧ (Ty.tuple == Ty.list) = false ∧ (Ty.list == Ty.str) = false ∧ (Ty.list == Ty.int) = false ∧ (Ty.list == Ty.bool) = false ∧ (Ty.list == Ty.tuple) = false ∧ (Ty.list == Ty.list) = true := by decide
theorem lim_nat {n : Nat} (h : n ≤ 1000000) : lim62 (n : Int) :=
  ⟨Int.le_trans (by decide +kernel : -(2 ^ 62) ≤ (0 : Int)) (Int.natCast_nonneg n), Int.lt_of_le_of_lt (Int.ofNat_le.mpr h) (by decide +kernel : ((1000000 : Nat) : Int) < 2 ^ 62)⟩
theorem it_rng1 {Γ : G} {a : E} {ρ : Rho} {μ μ' : Mu} {i : Int} {n : Nat} (h : evalE Γ a ρ μ = .ok (.int i) μ') (hi : i = n) (hn : n ≤ 1000000) : evalIt Γ (.rng1 a) ρ μ = .ok (rngD 0 n, none) μ' := by
  subst hi
  rw [evalIt, h, bind_ok]
  show needs (lim62 (n : Int)) _ = _
  rw [needs_pos (lim_nat hn)]
  rfl
theorem it_rng2 {Γ : G} {a b : E} {ρ : Rho} {μ μ1 μ2 : Mu} {i j : Int} {n m : Nat} (h : evalE Γ a ρ μ = .ok (.int i) μ1) (h2 : evalE Γ b ρ μ1 = .ok (.int j) μ2) (hi : i = n) (hj : j = (n + m : Nat)) (hn : n + m ≤ 1000000) : evalIt Γ (.rng2 a b) ρ μ = .ok (rngD i m, none) μ2 := by
  subst hi hj
  rw [evalIt, h, bind_ok, h2, bind_ok]
  show needs (lim62 (n : Int) ∧ lim62 ((n + m : Nat) : Int)) _ = _
  rw [needs_pos ⟨lim_nat (by omega), lim_nat hn⟩]
  have : (((n + m : Nat) : Int) - (n : Int)).toNat = m := by omega
  rw [this]
theorem for_run {Γ : G} {tg : Tg} {it : IT} {b : B} {ρ : Rho} {μ μ' : Mu} {ds : List D} {o : Out} (h : evalIt Γ it ρ μ = .ok (ds, none) μ')
    (h2 : forLoop (fun d ρ μ => match assignT tg d ρ with
      | some ρ' => runB Γ b ρ' μ
      | none => .stuck) (chkOf none) ds ρ μ' = o) : runS Γ (.for_ tg it b) ρ μ = o := by
  rw [runS, h, then_ok]
  exact h2
/-- one round of a loop -/
def fbody (Γ : G) (tg : Tg) (b : B) (d : D) (ρ : Rho) (μ : Mu) : Out := match assignT tg d ρ with
  | some ρ' => runB Γ b ρ' μ
  | none => .stuck
theorem for_run' {Γ : G} {tg : Tg} {it : IT} {b : B} {ρ : Rho} {μ μ' : Mu} {ds : List D} {o : Out} (h : evalIt Γ it ρ μ = .ok (ds, none) μ') (h2 : forLoop (fbody Γ tg b) (chkOf none) ds ρ μ' = o) : runS Γ (.for_ tg it b) ρ μ = o := for_run h h2
theorem fbody_nm {Γ : G} {i : Nat} {b : B} {d : D} {ρ : Rho} {μ : Mu} : fbody Γ (.nm i) b d ρ μ = runB Γ b (ρ.set i (some d)) μ := rfl
/-- one item of a comprehension -/
def cbody (Γ : G) (own : List Nat) (tg : Tg) (c : T) (e : E) (ρ : Rho) (d : D) (μ : Mu) : Res (Option D) := match assignT tg d (wipeR ρ own) with
  | none => .stuck
  | some ρ' => (evalT Γ c ρ' μ).bind fun k μ => if k then (evalE Γ e ρ' μ).bind fun y μ => .ok (some y) μ else .ok none μ
theorem comp_run {Γ : G} {own : List Nat} {tg : Tg} {it : IT} {c : T} {e : E} {ρ : Rho} {μ μ1 μ2 : Mu} {ds l : List D} (h : evalIt Γ it ρ μ = .ok (ds, none) μ1) (h2 : compLoop (cbody Γ own tg c e ρ) (chkOf none) [] ds μ1 = .ok l μ2) :
    evalE Γ (.comp own tg it c e) ρ μ = .ok (.lst l) μ2 := by
  rw [evalE, h, bind_ok]
  exact congrArg (fun r : Res (List D) => r.bind fun (l : List D) (μ : Mu) => Res.ok (D.lst l) μ) h2
theorem cbody_nm {Γ : G} {own : List Nat} {i : Nat} {e : E} {ρ : Rho} {d y : D} {μ μ' : Mu} (h : evalE Γ e ((wipeR ρ own).set i (some d)) μ = .ok y μ') : cbody Γ own (.nm i) .yes e ρ d μ = .ok (some y) μ' := by
  unfold cbody
  simp only [assignT, evalT, bind_ok, if_true, h]
end PyI
/-! M1: rows of bits as numbers. -/
namespace PyI.K01
open PySem L2 PyProof.Rows
def mk (f : Nat → Bool) : Nat → Nat
  | 0 => 0
  | n + 1 => mk f n + (if f n then 2 ^ n else 0)
theorem mk_lt (f : Nat → Bool) : ∀ n, mk f n < 2 ^ n
  | 0 => by simp [mk]
  | n + 1 => by
    have := mk_lt f n
    rw [mk, Nat.pow_succ]
    split <;> omega
theorem mk_ext {f g : Nat → Bool} : ∀ {n : Nat}, (∀ i, i < n → f i = g i) → mk f n = mk g n
  | 0, _ => rfl
  | n + 1, h => by rw [mk, mk, mk_ext (fun i hi => h i (by omega)), h n (by omega)]
theorem mk_add (f : Nat → Bool) (a : Nat) : ∀ b, mk f (a + b) = mk f a + 2 ^ a * mk (fun n => f (n + a)) b
  | 0 => by simp [mk]
  | b + 1 => by
    rw [show a + (b + 1) = (a + b) + 1 by omega, mk, mk_add f a b, mk, Nat.mul_add, Nat.add_comm b a]
    split
    · rw [Nat.pow_add]; omega
    · omega
theorem mk_none {f : Nat → Bool} : ∀ {n : Nat}, (∀ i, i < n → f i = false) → mk f n = 0
  | 0, _ => rfl
  | n + 1, h => by rw [mk, mk_none (fun i hi => h i (by omega)), h n (by omega)]; simp
theorem mk_zero {f : Nat → Bool} : ∀ {n : Nat}, mk f n = 0 → ∀ i, i < n → f i = false
  | 0, _, i, hi => by omega
  | n + 1, h, i, hi => by
    rw [mk] at h
    have hp : 0 < 2 ^ n := Nat.two_pow_pos n
    cases hf : f n with
    | true => rw [hf] at h; simp at h
    | false =>
      rw [hf] at h
      rcases Nat.lt_or_ge i n with q | q
      · exact mk_zero (by simpa using h) i q
      · rw [show i = n by omega]; exact hf
theorem mk_cut {f : Nat → Bool} {m n : Nat} (hm : m ≤ n) (h : ∀ i, m ≤ i → i < n → f i = false) : mk f n = mk f m := by
  obtain ⟨b, rfl⟩ : ∃ b, n = m + b := ⟨n - m, by omega⟩
  rw [mk_add, mk_none fun i hi => h (i + m) (by omega) (by omega)]
  omega
theorem mk_div (f : Nat → Bool) (k m : Nat) : mk f (k + m) / 2 ^ k = mk (fun n => f (n + k)) m := by
  rw [mk_add, Nat.add_mul_div_left _ _ (Nat.two_pow_pos k), Nat.div_eq_of_lt (mk_lt f k), Nat.zero_add]
theorem mk_mod (f : Nat → Bool) (k m : Nat) : mk f (k + m) % 2 ^ k = mk f k := by
  rw [mk_add, Nat.add_mul_mod_self_left, Nat.mod_eq_of_lt (mk_lt f k)]
theorem mk_shift (f : Nat → Bool) (k m : Nat) : mk f (k + m) / 2 ^ k * 2 ^ k = mk (fun n => decide (k ≤ n) && f n) (k + m) := by
  rw [mk_div, mk_add _ k m, mk_none (n := k) (fun i hi => by rw [decide_eq_false (by omega)]; rfl), Nat.zero_add, Nat.mul_comm]
  congr 1
  exact mk_ext fun i hi => by rw [decide_eq_true (by omega)]; rfl
theorem mk_bit (f : Nat → Bool) : ∀ n i, (mk f n).testBit i = (decide (i < n) && f i)
  | 0, i => by simp [mk]
  | n + 1, i => by
    rcases Nat.lt_trichotomy i n with h | h | h
    · rw [mk]
      have e : (mk f n).testBit i = f i := by rw [mk_bit f n i, decide_eq_true h]; rfl
      rw [decide_eq_true (show i < n + 1 by omega)]
      split
      · rw [Nat.add_comm, Nat.testBit_two_pow_add_gt h, e]; rfl
      · rw [Nat.add_zero, e]; rfl
    · subst h
      have e : (mk f i).testBit i = false := Nat.testBit_lt_two_pow (mk_lt f i)
      rw [mk, decide_eq_true (show i < i + 1 by omega)]
      cases hf : f i with
      | true => rw [if_pos rfl, Nat.add_comm, Nat.testBit_two_pow_add_eq, e]; rfl
      | false => rw [if_neg (by decide), Nat.add_zero, e]; rfl
    · rw [decide_eq_false (show ¬ i < n + 1 by omega)]
      exact Nat.testBit_lt_two_pow (Nat.lt_of_lt_of_le (mk_lt f (n + 1)) (Nat.pow_le_pow_right (by decide) h))
theorem mk_and (f g : Nat → Bool) (n : Nat) : mk f n &&& mk g n = mk (fun i => f i && g i) n := by
  refine Nat.eq_of_testBit_eq fun i => ?_
  rw [Nat.testBit_and, mk_bit, mk_bit, mk_bit]
  cases decide (i < n) <;> simp
theorem mk_or (f g : Nat → Bool) (n : Nat) : mk f n ||| mk g n = mk (fun i => f i || g i) n := by
  refine Nat.eq_of_testBit_eq fun i => ?_
  rw [Nat.testBit_or, mk_bit, mk_bit, mk_bit]
  cases decide (i < n) <;> simp
theorem mk_xor_add (f g : Nat → Bool) : ∀ n, mk (fun i => f i ^^ g i) n + mk (fun i => f i && g i) n = mk (fun i => f i || g i) n
  | 0 => rfl
  | n + 1 => by
    have := mk_xor_add f g n
    simp only [mk]
    rcases Bool.eq_false_or_eq_true (f n) with hf | hf <;> rcases Bool.eq_false_or_eq_true (g n) with hg | hg <;> simp only [hf, hg] <;> simp <;> omega
theorem mk_not_add (f g : Nat → Bool) : ∀ n, mk (fun i => f i && !g i) n + mk (fun i => f i && g i) n = mk f n
  | 0 => rfl
  | n + 1 => by
    have := mk_not_add f g n
    simp only [mk]
    rcases Bool.eq_false_or_eq_true (f n) with hf | hf <;> rcases Bool.eq_false_or_eq_true (g n) with hg | hg <;> simp only [hf, hg] <;> simp <;> omega
theorem i_and (f g : Nat → Bool) (n : Nat) : Builtin.bitAnd (mk f n : Nat) (mk g n : Nat) = ((mk (fun i => f i && g i) n : Nat) : Int) := by
  rw [PySem.W.os_band, mk_and]
theorem i_or (f g : Nat → Bool) (n : Nat) : Builtin.bitOr (mk f n : Nat) (mk g n : Nat) = ((mk (fun i => f i || g i) n : Nat) : Int) := by
  rw [bitOr_and, i_and]
  have h1 := mk_xor_add f g n
  have h2 := mk_not_add f g n
  have h3 := mk_not_add g f n
  have h4 : mk (fun i => g i && f i) n = mk (fun i => f i && g i) n := mk_ext fun i _ => Bool.and_comm _ _
  have h5 : ∀ n, mk (fun i => f i ^^ g i) n = mk (fun i => f i && !g i) n + mk (fun i => g i && !f i) n := fun n => by
    induction n with
    | zero => rfl
    | succ n ih =>
      simp only [mk]
      rcases Bool.eq_false_or_eq_true (f n) with hf | hf <;> rcases Bool.eq_false_or_eq_true (g n) with hg | hg <;> simp only [hf, hg] <;> simp <;> omega
  have := h5 n
  omega
theorem i_xor (f g : Nat → Bool) (n : Nat) : Builtin.bitXor (mk f n : Nat) (mk g n : Nat) = ((mk (fun i => f i ^^ g i) n : Nat) : Int) := by
  unfold Builtin.bitXor
  rw [i_or, i_and]
  have h1 := mk_xor_add f g n
  omega
theorem i_without (f g : Nat → Bool) (n : Nat) : Builtin.bitAnd (mk f n : Nat) (Builtin.bitNot (mk g n : Nat)) = ((mk (fun i => f i && !g i) n : Nat) : Int) := by
  rw [bitAnd_not, i_and]
  have h1 := mk_not_add f g n
  omega
theorem i_mod {x : Nat} (k : Nat) : Builtin.bitAnd (x : Int) (2 ^ k - 1) = ((x % 2 ^ k : Nat) : Int) := by
  rw [Bits.bitAnd_mask k (Int.natCast_nonneg x)]
  simp
/-- how long the row of bits is -/
theorem mk_len (f : Nat → Bool) : ∀ n, ∃ s, s ≤ n ∧ Builtin.Int.intBits (mk f n : Nat) = s ∧ (∀ i, s ≤ i → i < n → f i = false) ∧ (s = 0 ∨ f (s - 1) = true)
  | 0 => ⟨0, Nat.le_refl _, rfl, fun i _ h => by omega, .inl rfl⟩
  | n + 1 => by
    cases hf : f n with
    | true =>
      refine ⟨n + 1, Nat.le_refl _, ?_, fun i h1 h2 => by omega, .inr hf⟩
      have h1 : 2 ^ n ≤ mk f (n + 1) := by rw [mk, hf]; simp
      have h2 := mk_lt f (n + 1)
      generalize mk f (n + 1) = x at h1 h2
      have hx : x ≠ 0 := by have := Nat.two_pow_pos n; omega
      have e : x.log2 = n := (Nat.log2_eq_iff hx).mpr ⟨h1, h2⟩
      unfold Builtin.Int.intBits
      rw [if_neg (by simpa using hx), Int.natAbs_natCast, e]
    | false =>
      obtain ⟨s, h1, h2, h3, h4⟩ := mk_len f n
      refine ⟨s, by omega, ?_, fun i q1 q2 => ?_, h4⟩
      · rw [mk, hf]; simpa using h2
      · rcases Nat.lt_or_ge i n with q | q
        · exact h3 i q1 q
        · rw [show i = n by omega]; exact hf
/-- the least bit -/
theorem mk_least {f : Nat → Bool} {n k : Nat} (hk : k < n) (h1 : f k = true) (h0 : ∀ i, i < k → f i = false) : Builtin.bitAnd (mk f n : Nat) (-(mk f n : Nat)) = ((2 ^ k : Nat) : Int) := by
  have hpos : 0 < mk f n := by
    rcases Nat.eq_zero_or_pos (mk f n) with q | q
    · rw [mk_zero q k hk] at h1; cases h1
    · exact q
  have e1 : (-(mk f n : Nat) : Int) = Builtin.bitNot ((mk f n - 1 : Nat) : Int) := by unfold Builtin.bitNot; omega
  rw [e1, bitAnd_not]
  let g : Nat → Bool := fun i => if i < k then true else if i = k then false else f i
  have e2 : mk f n = mk g n + 1 := by
    obtain ⟨b, rfl⟩ : ∃ b, n = (k + 1) + b := ⟨n - (k + 1), by omega⟩
    rw [mk_add f, mk_add g, mk, mk, mk_none h0, h1]
    have e3 : mk g k + 1 = 2 ^ k := by
      have : ∀ m, m ≤ k → mk g m + 1 = 2 ^ m := fun m => by
        induction m with
        | zero => intro _; rfl
        | succ m ih =>
          intro hm
          have := ih (by omega)
          rw [mk, Nat.pow_succ, show g m = true by show (if m < k then true else _) = true; rw [if_pos (by omega)]]
          simp; omega
      exact this k (Nat.le_refl _)
    have e4 : g k = false := by show (if k < k then true else if k = k then false else f k) = false; simp
    have e5 : mk (fun n => f (n + (k + 1))) b = mk (fun n => g (n + (k + 1))) b := mk_ext fun i _ => by
      show _ = if i + (k + 1) < k then true else if i + (k + 1) = k then false else f (i + (k + 1))
      rw [if_neg (by omega), if_neg (by omega)]
    rw [e4, e5]
    simp
    omega
  have e6 : mk f n - 1 = mk g n := by omega
  rw [e6, i_and]
  have e7 := mk_not_add f g n
  have e8 : mk (fun i => f i && !g i) n = 2 ^ k := by
    obtain ⟨b, rfl⟩ : ∃ b, n = (k + 1) + b := ⟨n - (k + 1), by omega⟩
    rw [mk_add, mk, mk_none (n := k) (fun i hi => by rw [h0 i hi]; rfl), mk_none (n := b) (fun i hi => ?_)]
    · have e4 : g k = false := by show (if k < k then true else if k = k then false else f k) = false; simp
      rw [h1, e4]; simp
    · show (f (i + (k + 1)) && !g (i + (k + 1))) = false
      have : g (i + (k + 1)) = f (i + (k + 1)) := by
        show (if i + (k + 1) < k then true else if i + (k + 1) = k then false else f (i + (k + 1))) = _
        rw [if_neg (by omega), if_neg (by omega)]
      rw [this]; cases f (i + (k + 1)) <;> rfl
  omega
theorem bits_pow (k : Nat) : Builtin.Int.intBits ((2 ^ k : Nat) : Int) = k + 1 := by
  unfold Builtin.Int.intBits
  have := Nat.two_pow_pos k
  have h2 : ¬ (((2 ^ k : Nat) : Int) == 0) = true := by rw [beq_iff_eq]; omega
  rw [if_neg h2, Int.natAbs_natCast, Nat.log2_two_pow]
/-- the numbers from lo to hi -/
theorem mk_from (lo : Nat) : ∀ n, lo ≤ n → mk (fun i => decide (lo ≤ i)) n + 2 ^ lo = 2 ^ n
  | 0, h => by rw [show lo = 0 by omega]; rfl
  | n + 1, h => by
    rcases Nat.lt_or_ge n lo with q | q
    · rw [show lo = n + 1 by omega, mk_none (fun i hi => decide_eq_false (by omega)), Nat.zero_add]
    · have := mk_from lo n q
      rw [mk, decide_eq_true q, Nat.pow_succ]
      simp; omega
theorem mk_span {lo hi n : Nat} (h : lo ≤ hi + 1) (hn : hi < n) : mk (fun i => decide (lo ≤ i) && decide (i ≤ hi)) n + 2 ^ lo = 2 ^ (hi + 1) := by
  rw [mk_cut (m := hi + 1) (by omega) (fun i h1 h2 => by rw [decide_eq_false (show ¬ i ≤ hi by omega), Bool.and_false]), mk_ext (g := fun i => decide (lo ≤ i)) (fun i hi => by rw [decide_eq_true (show i ≤ _ by omega), Bool.and_true])]
  exact mk_from lo _ h
/-- the sum of 2 ^ (p * i), i < q -/
def geo (p : Nat) : Nat → Nat
  | 0 => 0
  | q + 1 => geo p q + 2 ^ (p * q)
theorem geo_eq (p : Nat) : ∀ q, geo p q * (2 ^ p - 1) + 1 = 2 ^ (p * q)
  | 0 => by simp [geo]
  | q + 1 => by
    have := geo_eq p q
    have hp : 1 ≤ 2 ^ p := Nat.two_pow_pos p
    have h2 : 2 ^ (p * q) * (2 ^ p - 1) + 2 ^ (p * q) = 2 ^ (p * q) * 2 ^ p := by
      have e : 2 ^ (p * q) * (2 ^ p - 1) + 2 ^ (p * q) = 2 ^ (p * q) * (2 ^ p - 1 + 1) := by rw [Nat.mul_add, Nat.mul_one]
      rw [e, Nat.sub_add_cancel hp]
    rw [geo, Nat.add_mul, Nat.mul_add, Nat.pow_add, Nat.mul_one]
    omega
theorem mk_rep {g : Nat → Bool} {p : Nat} (hp : 0 < p) : ∀ q, mk (fun n => g (n % p)) (p * q) = mk g p * geo p q
  | 0 => by simp [mk, geo]
  | q + 1 => by
    rw [Nat.mul_add, Nat.mul_one, mk_add, mk_rep hp q, geo, Nat.mul_add, Nat.mul_comm (mk g p) (2 ^ (p * q))]
    congr 2
    exact mk_ext fun i hi => by show g ((i + p * q) % p) = g i; rw [Nat.add_mul_mod_self_left, Nat.mod_eq_of_lt hi]
theorem all_div {p q : Nat} (hp : 0 < p) (h : p * q = 300) : (2 ^ 300 - 1) / (2 ^ p - 1) = geo p q := by
  have e := geo_eq p q
  rw [h] at e
  have h2 : 1 < 2 ^ p := Nat.one_lt_two_pow (by omega)
  rw [show 2 ^ 300 - 1 = geo p q * (2 ^ p - 1) by omega]
  exact Nat.mul_div_cancel _ (by omega)
end PyI.K01
/-! M2: sets that repeat: the least period, the least start, runs, rests. -/
namespace PyI.K01
open PySem L2
/-- p is a period from b on -/
def Per (f : Nat → Bool) (b p : Nat) : Prop := ∀ n, b ≤ n → f (n + p) = f n
theorem Per.up {f : Nat → Bool} {b c p : Nat} (h : Per f b p) (hb : b ≤ c) : Per f c p := fun n hn => h n (by omega)
theorem Per.mul {f : Nat → Bool} {b p : Nat} (h : Per f b p) : ∀ k, Per f b (k * p)
  | 0 => fun n _ => by rw [Nat.zero_mul, Nat.add_zero]
  | k + 1 => fun n hn => by
    rw [Nat.succ_mul, ← Nat.add_assoc, h _ (by omega), Per.mul h k n hn]
theorem Per.mod {f : Nat → Bool} {b p q : Nat} (h : Per f b p) (k : Per f b q) : Per f b (q % p) := fun n hn => by
  have e := Nat.div_add_mod q p
  rw [Nat.mul_comm] at e
  have h1 := (h.mul (q / p)) (n + q % p) (by omega)
  rw [← h1, Nat.add_assoc, Nat.add_comm (q % p), e, k n hn]
/-- where p is a period somewhere on, it is one from any b on from which a multiple is one -/
theorem Per.down {f : Nat → Bool} {b c p q : Nat} (hq : 0 < q) (h : Per f c p) (k : Per f b q) : Per f b p := fun n hn => by
  have h1 := k.mul c n hn
  have h2 := k.mul c (n + p) (by omega)
  have h3 : c ≤ n + c * q := Nat.le_trans (Nat.le_mul_of_pos_right c hq) (Nat.le_add_left ..)
  have := h (n + c * q) h3
  rw [← h2, ← h1, ← this]
  congr 1
  omega
/-- the least period -/
structure LP (f : Nat → Bool) (b p : Nat) : Prop where
  pos : 0 < p
  per : Per f b p
  least : ∀ q, 0 < q → Per f b q → p ≤ q
theorem LP.dvd {f : Nat → Bool} {b p q : Nat} (h : LP f b p) (k : Per f b q) : p ∣ q := by
  rcases Nat.eq_zero_or_pos (q % p) with e | e
  · exact Nat.dvd_of_mod_eq_zero e
  · have := h.least _ e (h.per.mod k)
    have := Nat.mod_lt q h.pos
    omega
theorem LP.uniq {f : Nat → Bool} {b p q : Nat} (h : LP f b p) (k : LP f b q) : p = q := Nat.le_antisymm (h.least _ k.pos k.per) (k.least _ h.pos h.per)
theorem LP.move {f : Nat → Bool} {b c p : Nat} (h : LP f b p) {q : Nat} (hq : 0 < q) (hb : Per f b q) (hc : Per f c q) : LP f c p :=
  ⟨h.pos, Per.down hq h.per hc, fun r hr hp => h.least r hr (Per.down hq hp hb)⟩
theorem lp_ex {f : Nat → Bool} {b q : Nat} (hq : 0 < q) (h : Per f b q) : ∃ p, LP f b p := by
  have key : ∀ m, (∃ p, 0 < p ∧ p ≤ m ∧ Per f b p) → ∃ p, LP f b p := by
    intro m
    induction m with
    | zero => rintro ⟨p, h1, h2, _⟩; omega
    | succ m ih =>
      rintro ⟨p, h1, h2, h3⟩
      by_cases z : ∃ p, 0 < p ∧ p ≤ m ∧ Per f b p
      · exact ih z
      · exact ⟨p, h1, h3, fun r hr hp => by
          by_cases w : r ≤ m
          · exact absurd ⟨r, hr, w, hp⟩ z
          · omega⟩
  exact key q ⟨q, hq, Nat.le_refl _, h⟩
/-- the value at a number from b on -/
theorem Per.at {f : Nat → Bool} {b p : Nat} (h : Per f b p) {m n : Nat} (hm : b ≤ m) (hn : b ≤ n) (e : m % p = n % p) : f m = f n := by
  have key : ∀ m n, b ≤ m → m ≤ n → m % p = n % p → f m = f n := fun m n hm hn e => by
    have e1 : p ∣ n - m := Nat.dvd_of_mod_eq_zero (Nat.sub_mod_eq_zero_of_mod_eq e.symm)
    obtain ⟨k, hk⟩ := e1
    have := h.mul k m hm
    rw [Nat.mul_comm, ← hk, show m + (n - m) = n by omega] at this
    exact this.symm
  rcases Nat.le_total m n with q | q
  · exact key m n hm q e
  · exact (key n m hn q e.symm).symm
/-- the least start -/
structure LS (f : Nat → Bool) (p s : Nat) : Prop where
  per : Per f s p
  least : s = 0 ∨ f (s - 1 + p) ≠ f (s - 1)
theorem LS.uniq {f : Nat → Bool} {p s t : Nat} (h : LS f p s) (k : LS f p t) : s = t := by
  rcases Nat.lt_trichotomy s t with q | q | q
  · rcases k.least with e | e
    · omega
    · exact absurd (h.per (t - 1) (by omega)) e
  · exact q
  · rcases h.least with e | e
    · omega
    · exact absurd (k.per (s - 1) (by omega)) e
/-- the runs below n -/
def runs (f : Nat → Bool) : Nat → List (Nat × Nat)
  | 0 => []
  | n + 1 => if f n then (if n = 0 ∨ f (n - 1) = false then runs f n ++ [(n, n)] else (runs f n).dropLast ++ [(((runs f n).getLastD (0, 0)).1, n)]) else runs f n
/-- the rests of a set of period p, told at a start that p divides -/
def rests (f : Nat → Bool) (p : Nat) : List Nat := (List.range p).filter fun r => f (200 + r)
theorem runs_ext {f g : Nat → Bool} : ∀ {n : Nat}, (∀ i, i < n → f i = g i) → runs f n = runs g n
  | 0, _ => rfl
  | n + 1, h => by
    rw [runs, runs, runs_ext (fun i hi => h i (by omega)), h n (by omega)]
    by_cases q : n = 0
    · simp [q]
    · rw [h (n - 1) (by omega)]
theorem runs_skip {f : Nat → Bool} {a : Nat} : ∀ {b : Nat}, (∀ i, a ≤ i → i < a + b → f i = false) → runs f (a + b) = runs f a
  | 0, _ => rfl
  | b + 1, h => by
    rw [← Nat.add_assoc, runs, h (a + b) (by omega) (by omega), if_neg (by decide), runs_skip fun i h1 h2 => h i h1 (by omega)]
theorem runs_full {f : Nat → Bool} {a : Nat} (h0 : a = 0 ∨ f (a - 1) = false) : ∀ {b : Nat}, (∀ i, a ≤ i → i < a + (b + 1) → f i = true) → runs f (a + (b + 1)) = runs f a ++ [(a, a + b)]
  | 0, h => by
    rw [show a + (0 + 1) = a + 1 by omega, runs, h a (by omega) (by omega), if_pos rfl, if_pos h0, Nat.add_zero]
  | b + 1, h => by
    rw [show a + (b + 1 + 1) = (a + (b + 1)) + 1 by omega, runs, h (a + (b + 1)) (by omega) (by omega), if_pos rfl, if_neg (by
      rintro (q | q)
      · omega
      · rw [h _ (by omega) (by omega)] at q; cases q), runs_full h0 fun i h1 h2 => h i h1 (by omega)]
    simp
/-- what the runs are -/
structure Runs (f : Nat → Bool) (n : Nat) (l : List (Nat × Nat)) : Prop where
  ok : ∀ r ∈ l, r.1 ≤ r.2 ∧ r.2 < n
  up : l.Pairwise fun r q => r.2 < q.1
  mem : ∀ i, i < n → (f i = true ↔ ∃ r ∈ l, r.1 ≤ i ∧ i ≤ r.2)
  last : ∀ m, n = m + 1 → f m = true → ∃ l' a, l = l' ++ [(a, m)]
theorem runs_ok (f : Nat → Bool) : ∀ n, Runs f n (runs f n)
  | 0 => ⟨(fun r h => nomatch h), .nil, (fun i h => absurd h (Nat.not_lt_zero i)), (fun m h => by omega)⟩
  | n + 1 => by
    have ih := runs_ok f n
    rw [runs]
    cases hf : f n with
    | false =>
      rw [if_neg (by decide)]
      refine ⟨fun r h => ⟨(ih.ok r h).1, by have := (ih.ok r h).2; omega⟩, ih.up, fun i hi => ?_, fun m e h => ?_⟩
      · rcases Nat.lt_or_ge i n with q | q
        · exact ih.mem i q
        · rw [show i = n by omega, hf]
          refine ⟨fun h => absurd h (by decide), ?_⟩
          rintro ⟨r, hr, h1, h2⟩
          have := (ih.ok r hr).2
          omega
      · rw [show m = n by omega, hf] at h; cases h
    | true =>
      rw [if_pos rfl]
      by_cases q : n = 0 ∨ f (n - 1) = false
      · rw [if_pos q]
        refine ⟨fun r h => ?_, ?_, fun i hi => ?_, fun m e h => ⟨runs f n, n, by rw [show m = n by omega]⟩⟩
        · rcases List.mem_append.mp h with h | h
          · exact ⟨(ih.ok r h).1, by have := (ih.ok r h).2; omega⟩
          · rw [List.mem_singleton.mp h]; exact ⟨Nat.le_refl _, by show n < n + 1; omega⟩
        · rw [List.pairwise_append]
          refine ⟨ih.up, by simp, fun r hr s hs => ?_⟩
          rw [List.mem_singleton.mp hs]
          exact (ih.ok r hr).2
        · rcases Nat.lt_or_ge i n with z | z
          · rw [ih.mem i z]
            constructor
            · rintro ⟨r, hr, h1, h2⟩; exact ⟨r, List.mem_append_left _ hr, h1, h2⟩
            · rintro ⟨r, hr, h1, h2⟩
              rcases List.mem_append.mp hr with hr | hr
              · exact ⟨r, hr, h1, h2⟩
              · rw [List.mem_singleton.mp hr] at h1
                have : n ≤ i := h1
                omega
          · rw [show i = n by omega, hf]
            exact ⟨fun _ => ⟨(n, n), List.mem_append_right _ (List.mem_singleton_self _), Nat.le_refl _, Nat.le_refl _⟩, fun _ => rfl⟩
      · rw [if_neg q]
        have hn : n ≠ 0 := fun e => q (.inl e)
        have hf1 : f (n - 1) = true := by
          cases h : f (n - 1) with
          | true => rfl
          | false => exact absurd (.inr h) q
        obtain ⟨l', a, e⟩ := ih.last (n - 1) (by omega) hf1
        have ok := ih.ok
        have up := ih.up
        have mem := ih.mem
        rw [e] at ok up mem ⊢
        rw [List.dropLast_concat, List.getLastD_concat]
        rw [List.pairwise_append] at up
        have oka := (ok (a, n - 1) (List.mem_append_right _ (List.mem_singleton_self _))).1
        refine ⟨fun r h => ?_, ?_, fun i hi => ?_, fun m e h => ⟨l', a, by rw [show m = n by omega]⟩⟩
        · rcases List.mem_append.mp h with h | h
          · have := ok r (List.mem_append_left _ h)
            exact ⟨this.1, by omega⟩
          · rw [List.mem_singleton.mp h]
            have : a ≤ n - 1 := oka
            exact ⟨by show a ≤ n; omega, by show n < n + 1; omega⟩
        · rw [List.pairwise_append]
          refine ⟨up.1, by simp, fun r hr s hs => ?_⟩
          rw [List.mem_singleton.mp hs]
          exact up.2.2 r hr (a, n - 1) (List.mem_singleton_self _)
        · rcases Nat.lt_or_ge i n with z | z
          · rw [mem i z]
            constructor
            · rintro ⟨r, hr, h1, h2⟩
              rcases List.mem_append.mp hr with hr | hr
              · exact ⟨r, List.mem_append_left _ hr, h1, h2⟩
              · rw [List.mem_singleton.mp hr] at h1 h2
                exact ⟨(a, n), List.mem_append_right _ (List.mem_singleton_self _), h1, by show i ≤ n; omega⟩
            · rintro ⟨r, hr, h1, h2⟩
              rcases List.mem_append.mp hr with hr | hr
              · exact ⟨r, List.mem_append_left _ hr, h1, h2⟩
              · rw [List.mem_singleton.mp hr] at h1 h2
                exact ⟨(a, n - 1), List.mem_append_right _ (List.mem_singleton_self _), h1, by show i ≤ n - 1; omega⟩
          · rw [show i = n by omega, hf]
            refine ⟨fun _ => ⟨(a, n), List.mem_append_right _ (List.mem_singleton_self _), ?_, Nat.le_refl _⟩, fun _ => rfl⟩
            have : a ≤ n - 1 := oka
            show a ≤ n; omega
/-- how many there are -/
theorem runs_size (f : Nat → Bool) : ∀ n, ((runs f n).map fun r => r.2 + 1 - r.1).sum = ((List.range n).filter f).length
  | 0 => rfl
  | n + 1 => by
    have ih := runs_size f n
    rw [runs, List.range_succ, List.filter_append, List.length_append]
    cases hf : f n with
    | false => rw [if_neg (by decide)]; simp [hf, ih]
    | true =>
      rw [if_pos rfl]
      by_cases q : n = 0 ∨ f (n - 1) = false
      · rw [if_pos q]; simp [hf, ih]
      · rw [if_neg q]
        have hn : n ≠ 0 := fun e => q (.inl e)
        have hf1 : f (n - 1) = true := by
          cases h : f (n - 1) with
          | true => rfl
          | false => exact absurd (.inr h) q
        have r := runs_ok f n
        obtain ⟨l', a, e⟩ := r.last (n - 1) (by omega) hf1
        have oka := (r.ok (a, n - 1) (by rw [e]; exact List.mem_append_right _ (List.mem_singleton_self _))).1
        have : a ≤ n - 1 := oka
        rw [e] at ih ⊢
        rw [List.dropLast_concat, List.getLastD_concat]
        simp [hf] at ih ⊢
        omega
end PyI.K01
/-! M3: what the program looks at. -/
namespace PyI.K01
open PySem L2
/-- f repeats by P, a part of 100, from b on; p its least period, s the start of it -/
structure Rp (f : Nat → Bool) (b P p s : Nat) : Prop where
  pos : 0 < P
  dv : P ∣ 100
  per : Per f b P
  hb : b ≤ 200
  lp : LP f b p
  ls : LS f p s
section
variable {f : Nat → Bool} {b P p s : Nat}
theorem Rp.ex (pos : 0 < P) (dv : P ∣ 100) (per : Per f b P) (hb : b ≤ 200) : ∃ p s, Rp f b P p s := by
  obtain ⟨p, hp⟩ := lp_ex pos per
  have key : ∀ m, Per f m p → ∃ s, LS f p s := by
    intro m
    induction m with
    | zero => exact fun h => ⟨0, h, .inl rfl⟩
    | succ m ih =>
      intro h
      by_cases z : f (m + p) = f m
      · refine ih fun n hn => ?_
        rcases Nat.lt_or_ge m n with q | q
        · exact h n q
        · rw [show n = m by omega]; exact z
      · exact ⟨m + 1, h, .inr z⟩
  obtain ⟨s, hs⟩ := key b hp.per
  exact ⟨p, s, pos, dv, per, hb, hp, hs⟩
theorem Rp.uniq {b' P' p' s' : Nat} (h : Rp f b P p s) (k : Rp f b' P' p' s') : p = p' ∧ s = s' := by
  have e : p = p' := h.lp.uniq (k.lp.move k.pos k.per (Per.down k.pos (h.lp.per) k.per |> fun _ => Per.down h.pos k.per h.per))
  subst e
  exact ⟨rfl, h.ls.uniq k.ls⟩
theorem Rp.dvd (h : Rp f b P p s) : p ∣ P := h.lp.dvd h.per
theorem Rp.dvd100 (h : Rp f b P p s) : p ∣ 100 := Nat.dvd_trans h.dvd h.dv
theorem Rp.le (h : Rp f b P p s) : p ≤ 100 := Nat.le_of_dvd (by decide) h.dvd100
theorem Rp.start (h : Rp f b P p s) : s ≤ b := by
  rcases Nat.lt_or_ge b s with q | q
  · rcases h.ls.least with e | e
    · omega
    · exact absurd (h.lp.per (s - 1) (by omega)) e
  · exact q
theorem Rp.sle (h : Rp f b P p s) : s ≤ 200 := Nat.le_trans h.start h.hb
theorem dvd_list {p : Nat} (h : p ∣ 100) : p ∈ [1, 2, 4, 5, 10, 20, 25, 50, 100] := by
  have hl : p < 101 := Nat.lt_succ_of_le (Nat.le_of_dvd (by decide) h)
  have key : ∀ p, p < 101 → p ∣ 100 → p ∈ [1, 2, 4, 5, 10, 20, 25, 50, 100] := by decide
  exact key p hl h
theorem per_hundred (h : Rp f b P p s) : Per f b 100 := by
  obtain ⟨m, hm⟩ := h.dv
  have := h.per.mul m
  rw [Nat.mul_comm, ← hm] at this
  exact this
/-- the tail tells the periods -/
theorem per_of_tail (h : Rp f b P p s) {q : Nat} (hq : q ∣ 100) (ht : ∀ n, n < 100 - q → f (n + 200) = f (n + q + 200)) : Per f b q := by
  obtain ⟨m, hm⟩ := hq
  have h100 := per_hundred h
  have chain : ∀ j t, t + q * j < 100 → f (200 + t) = f (200 + (t + q * j)) := by
    intro j
    induction j with
    | zero => intro t _; rfl
    | succ j ih =>
      intro t hj
      rw [Nat.mul_succ] at hj ⊢
      rw [ih t (by omega)]
      have := ht (t + q * j) (by omega)
      rw [Nat.add_comm 200, this]
      congr 1
      omega
  have big : Per f 200 q := fun n hn => by
    have e1 : f n = f (200 + (n - 200) % 100) := Per.at h100 (by have := h.hb; omega) (by have := h.hb; omega) (by omega)
    have hr := Nat.mod_lt (n - 200) (by decide : 0 < 100)
    by_cases z : (n - 200) % 100 + q < 100
    · have e2 : f (n + q) = f (200 + ((n - 200) % 100 + q)) := Per.at h100 (by have := h.hb; omega) (by have := h.hb; omega) (by omega)
      have := ht ((n - 200) % 100) (by omega)
      rw [e1, e2, Nat.add_comm 200 ((n - 200) % 100), this]
      congr 1
      omega
    · have hm0 : m ≠ 0 := fun e => by subst e; simp at hm
      obtain ⟨j, rfl⟩ : ∃ j, m = j + 1 := ⟨m - 1, by omega⟩
      rw [Nat.mul_succ] at hm
      have e2 : f (n + q) = f (200 + ((n - 200) % 100 + q - 100)) := Per.at h100 (by have := h.hb; omega) (by have := h.hb; omega) (by omega)
      have := chain j ((n - 200) % 100 + q - 100) (by omega)
      rw [e1, e2, this]
      congr 1
      omega
  exact Per.down h.pos big h.per
theorem tail_of_per (h : Rp f b P p s) {q : Nat} (k : Per f b q) : ∀ n, n < 100 - q → f (n + 200) = f (n + q + 200) := fun n _ => by
  have := k (n + 200) (by have := h.hb; omega)
  rw [← this]
  congr 1
  omega
/-- a bit from the start on, by the rests -/
theorem Rp.bit (h : Rp f b P p s) {n : Nat} (hn : s ≤ n) : f n = f (200 + n % p) := by
  refine Per.at h.ls.per hn (by have := h.sle; omega) ?_
  obtain ⟨m, hm⟩ := h.dvd100
  have : 200 + n % p = n % p + p * (2 * m) := by
    have : p * (2 * m) = 2 * (p * m) := by rw [Nat.mul_left_comm]
    omega
  rw [this, Nat.add_mul_mod_self_left, Nat.mod_mod]
theorem mem_rests {p r : Nat} : r ∈ rests f p ↔ r < p ∧ f (200 + r) = true := by
  unfold rests
  rw [List.mem_filter, List.mem_range]
theorem Rp.bit' (h : Rp f b P p s) {n : Nat} (hn : s ≤ n) : f n = decide (n % p ∈ rests f p) := by
  rw [h.bit hn]
  have hp := Nat.mod_lt n h.lp.pos
  cases e : f (200 + n % p) with
  | true => exact (decide_eq_true (mem_rests.mpr ⟨hp, e⟩)).symm
  | false => exact (decide_eq_false fun q => by rw [(mem_rests.mp q).2] at e; cases e).symm
end
end PyI.K01
/-! the defs of sensekept_k01_numbers_sets; printed by gen.py -/
namespace PyI.K01
open PySem L2
def top (i : Nat) : Stmt := PySem.Challenge.pw_sensekept_k01_numbers_sets.main.body.getD i (.Pass ⟨0, 0, 0, 0⟩)
def tb : Tb := ⟨("condition_mask", 1) :: ("_atom_mask", 1) :: ("_span_mask", 2) :: ("_repeated", 2) :: ("set_mask", 1) :: ("mask_set", 1) :: ("_least_period", 1) :: ("_mask_spans", 1) :: ("least_bit", 1) :: ("_span_text", 2) :: ("set_of", 1) :: ("is_in", 2) :: ("union", 2) :: ("both", 2) :: ("without", 2) :: ("least", 2) :: ("size", 1) :: ("show_set", 1) :: ("_law_cell", 2) :: ("_law_digits", 3) :: ("_law_draw", 2) :: ("_law_pick", 2) :: ("_law_like", 2) :: ("_law_atom", 2) :: ("_law_atom_plain", 2) :: ("_law_number_condition", 2) :: ("_law_atom_holds", 2) :: ("_law_number_holds", 2) :: ("_law_bare_atom", 1) :: ("_law_atoms", 1) :: ("_law_common", 2) :: ("_law_period", 1) :: ("_law_bound", 1) :: ("_law_set_of_flags", 3) :: ("_law_set_text", 1) :: ("law", 1) :: [], ["HEAD", "CYCLE", "MOST", "ALL", "PERIODS"], []⟩
def con : Nat → Option D
  | 0 => some (.int 200)
  | 1 => some (.int 100)
  | 2 => some (.int 300)
  | 3 => some (.int 2037035976334486086268445688409378161051468393665936250636140449354381299763336706183397375)
  | 4 => some (.tup [(.int 1), (.int 2), (.int 4), (.int 5), (.int 10), (.int 20), (.int 25), (.int 50), (.int 100)])
  | _ => none
def dic : Nat → List (Str × D)
  | _ => []
def b_condition_mask : B := (.cons (.set (.nm 1) (.cst (.int 0)))
    (.cons (.for_ (.nm 2) (.seq (.var 0)) (.cons (.set (.nm 3) (.glob 3))
    (.cons (.for_ (.nm 4) (.seq (.var 2)) (.cons (.set (.nm 3) (.bin .band (.var 3) (.call 1 (.cons (.var 4) .nil))))
    .nil))
    (.cons (.set (.nm 1) (.bin .bor (.var 1) (.var 3)))
    .nil))))
    (.cons (.ret (.var 1))
    .nil)))
def f_condition_mask : FnD := ⟨"condition_mask", ["condition"], ["condition", "whole", "alternative", "part", "atom"], top 6, [], false, b_condition_mask⟩
theorem r_condition_mask : resB 80 ⟨⟨f_condition_mask.N, tb⟩, defScope f_condition_mask.st, locOf (defScope f_condition_mask.st), f_condition_mask.muts, f_condition_mask.τ⟩ (defBody f_condition_mask.st) = some b_condition_mask := by kernel_rfl
theorem o_condition_mask : f_condition_mask.Ok tb := ⟨r_condition_mask, ⟨rfl, rfl, rfl, by decide +kernel, rfl, by decide +kernel, by decide +kernel⟩, fun h => nomatch h⟩
def b_atom_mask : B := (.cons (.ifs (.val (.cmp .eq (.idx (.var 0) (.cst (.int 0))) (.cst (.str "not")))) (.cons (.ret (.bin .bxor (.glob 3) (.call 1 (.cons (.idx (.var 0) (.cst (.int 1))) .nil))))
    .nil) .nil)
    (.cons (.ifs (.val (.cmp .eq (.idx (.var 0) (.cst (.int 0))) (.cst (.str "rest")))) (.cons (.ret (.call 3 (.cons (.call 2 (.cons (.idx (.var 0) (.cst (.int 2))) (.cons (.idx (.var 0) (.cst (.int 3))) .nil))) (.cons (.idx (.var 0) (.cst (.int 1))) .nil))))
    .nil) .nil)
    (.cons (.ret (.call 2 (.cons (.idx (.var 0) (.cst (.int 1))) (.cons (.ite (.val (.cmp .is_ (.idx (.var 0) (.cst (.int 2))) (.cst .non))) (.bin .sub (.glob 2) (.cst (.int 1))) (.idx (.var 0) (.cst (.int 2)))) .nil))))
    .nil)))
def f_atom_mask : FnD := ⟨"_atom_mask", ["atom"], ["atom"], top 7, [], false, b_atom_mask⟩
theorem r_atom_mask : resB 80 ⟨⟨f_atom_mask.N, tb⟩, defScope f_atom_mask.st, locOf (defScope f_atom_mask.st), f_atom_mask.muts, f_atom_mask.τ⟩ (defBody f_atom_mask.st) = some b_atom_mask := by kernel_rfl
theorem o_atom_mask : f_atom_mask.Ok tb := ⟨r_atom_mask, ⟨rfl, rfl, rfl, by decide +kernel, rfl, by decide +kernel, by decide +kernel⟩, fun h => nomatch h⟩
def b_span_mask : B := (.cons (.ret (.bin .sub (.bin .shl (.cst (.int 1)) (.bin .add (.var 1) (.cst (.int 1)))) (.bin .shl (.cst (.int 1)) (.var 0))))
    .nil)
def f_span_mask : FnD := ⟨"_span_mask", ["first", "last"], ["first", "last"], top 8, [], false, b_span_mask⟩
theorem r_span_mask : resB 80 ⟨⟨f_span_mask.N, tb⟩, defScope f_span_mask.st, locOf (defScope f_span_mask.st), f_span_mask.muts, f_span_mask.τ⟩ (defBody f_span_mask.st) = some b_span_mask := by kernel_rfl
theorem o_span_mask : f_span_mask.Ok tb := ⟨r_span_mask, ⟨rfl, rfl, rfl, by decide +kernel, rfl, by decide +kernel, by decide +kernel⟩, fun h => nomatch h⟩
def b_repeated : B := (.cons (.ret (.bin .mul (.var 0) (.bin .fdiv (.glob 3) (.bin .sub (.bin .shl (.cst (.int 1)) (.var 1)) (.cst (.int 1))))))
    .nil)
def f_repeated : FnD := ⟨"_repeated", ["block", "period"], ["block", "period"], top 9, [], false, b_repeated⟩
theorem r_repeated : resB 80 ⟨⟨f_repeated.N, tb⟩, defScope f_repeated.st, locOf (defScope f_repeated.st), f_repeated.muts, f_repeated.τ⟩ (defBody f_repeated.st) = some b_repeated := by kernel_rfl
theorem o_repeated : f_repeated.Ok tb := ⟨r_repeated, ⟨rfl, rfl, rfl, by decide +kernel, rfl, by decide +kernel, by decide +kernel⟩, fun h => nomatch h⟩
def b_set_mask : B := (.cons (.set (.tp [1, 2]) (.idx (.var 0) (.cst (.int 1))))
    (.cons (.set (.nm 3) (.cst (.int 0)))
    (.cons (.for_ (.nm 4) (.seq (.idx (.var 0) (.cst (.int 3)))) (.cons (.set (.nm 3) (.bin .bor (.var 3) (.bin .shl (.cst (.int 1)) (.var 4))))
    .nil))
    (.cons (.set (.nm 5) (.bin .shl (.bin .shr (.call 3 (.cons (.var 3) (.cons (.idx (.var 0) (.cst (.int 2))) .nil))) (.var 2)) (.var 2)))
    (.cons (.for_ (.tp [6, 7]) (.seq (.var 1)) (.cons (.set (.nm 5) (.bin .bor (.var 5) (.call 2 (.cons (.var 6) (.cons (.var 7) .nil)))))
    .nil))
    (.cons (.ret (.var 5))
    .nil))))))
def f_set_mask : FnD := ⟨"set_mask", ["one"], ["one", "spans", "start", "block", "rest", "mask", "first", "last"], top 10, [], false, b_set_mask⟩
theorem r_set_mask : resB 80 ⟨⟨f_set_mask.N, tb⟩, defScope f_set_mask.st, locOf (defScope f_set_mask.st), f_set_mask.muts, f_set_mask.τ⟩ (defBody f_set_mask.st) = some b_set_mask := by kernel_rfl
theorem o_set_mask : f_set_mask.Ok tb := ⟨r_set_mask, ⟨rfl, rfl, rfl, by decide +kernel, rfl, by decide +kernel, by decide +kernel⟩, fun h => nomatch h⟩
def b_mask_set : B := (.cons (.set (.nm 1) (.call 6 (.cons (.bin .shr (.var 0) (.glob 0)) .nil)))
    (.cons (.set (.nm 2) (.bin .band (.bin .bxor (.var 0) (.bin .shr (.var 0) (.var 1))) (.bin .sub (.bin .shl (.cst (.int 1)) (.glob 0)) (.cst (.int 1)))))
    (.cons (.set (.nm 3) (.bits (.var 2)))
    (.cons (.set (.nm 4) (.bin .shr (.var 0) (.glob 0)))
    (.cons (.set (.nm 5) (.bif .tuple (.cons (.comp [6] (.nm 6) (.rng1 (.var 1)) (.val (.bin .band (.bin .shr (.var 4) (.var 6)) (.cst (.int 1)))) (.var 6)) .nil)))
    (.cons (.ret (.tup (.cons (.cst (.str "set")) (.cons (.tup (.cons (.call 7 (.cons (.bin .band (.var 0) (.bin .sub (.bin .shl (.cst (.int 1)) (.var 3)) (.cst (.int 1)))) .nil)) (.cons (.var 3) .nil))) (.cons (.var 1) (.cons (.var 5) .nil))))))
    .nil))))))
def f_mask_set : FnD := ⟨"mask_set", ["mask"], ["mask", "period", "unlike", "start", "tail", "rests", "rest"], top 11, [], false, b_mask_set⟩
theorem r_mask_set : resB 80 ⟨⟨f_mask_set.N, tb⟩, defScope f_mask_set.st, locOf (defScope f_mask_set.st), f_mask_set.muts, f_mask_set.τ⟩ (defBody f_mask_set.st) = some b_mask_set := by kernel_rfl
theorem o_mask_set : f_mask_set.Ok tb := ⟨r_mask_set, ⟨rfl, rfl, rfl, by decide +kernel, rfl, by decide +kernel, by decide +kernel⟩, fun h => nomatch h⟩
def b_least_period : B := (.cons (.for_ (.nm 1) (.seq (.glob 4)) (.cons (.ifs (.val (.cmp .eq (.bin .band (.bin .bxor (.var 0) (.bin .shr (.var 0) (.var 1))) (.bin .sub (.bin .shl (.cst (.int 1)) (.bin .sub (.glob 1) (.var 1))) (.cst (.int 1)))) (.cst (.int 0)))) (.cons (.ret (.var 1))
    .nil) .nil)
    .nil))
    (.cons (.ret (.glob 1))
    .nil))
def f_least_period : FnD := ⟨"_least_period", ["tail"], ["tail", "period"], top 12, [], false, b_least_period⟩
theorem r_least_period : resB 80 ⟨⟨f_least_period.N, tb⟩, defScope f_least_period.st, locOf (defScope f_least_period.st), f_least_period.muts, f_least_period.τ⟩ (defBody f_least_period.st) = some b_least_period := by kernel_rfl
theorem o_least_period : f_least_period.Ok tb := ⟨r_least_period, ⟨rfl, rfl, rfl, by decide +kernel, rfl, by decide +kernel, by decide +kernel⟩, fun h => nomatch h⟩
def b_mask_spans : B := (.cons (.new 1 (.lst .nil))
    (.cons (.set (.nm 2) (.cst (.int 0)))
    (.cons (.whl (.val (.var 0)) (.cons (.set (.nm 3) (.call 8 (.cons (.var 0) .nil)))
    (.cons (.set (.nm 0) (.bin .shr (.var 0) (.var 3)))
    (.cons (.set (.nm 4) (.call 8 (.cons (.bin .add (.var 0) (.cst (.int 1))) .nil)))
    (.cons (.set (.nm 0) (.bin .shr (.var 0) (.var 4)))
    (.cons (.set (.nm 2) (.bin .add (.bin .add (.var 2) (.var 3)) (.var 4)))
    (.cons (.expr (.met .append (.var 1) (.cons (.tup (.cons (.bin .sub (.var 2) (.var 4)) (.cons (.bin .sub (.var 2) (.cst (.int 1))) .nil))) .nil)))
    .nil)))))))
    (.cons (.ret (.bif .tuple (.cons (.var 1) .nil)))
    .nil))))
def f_mask_spans : FnD := ⟨"_mask_spans", ["mask"], ["mask", "spans", "at", "gap", "length"], top 13, ["spans"], false, b_mask_spans⟩
theorem r_mask_spans : resB 80 ⟨⟨f_mask_spans.N, tb⟩, defScope f_mask_spans.st, locOf (defScope f_mask_spans.st), f_mask_spans.muts, f_mask_spans.τ⟩ (defBody f_mask_spans.st) = some b_mask_spans := by kernel_rfl
theorem o_mask_spans : f_mask_spans.Ok tb := ⟨r_mask_spans, ⟨rfl, rfl, rfl, by decide +kernel, rfl, by decide +kernel, by decide +kernel⟩, fun h => nomatch h⟩
def b_least_bit : B := (.cons (.ret (.bin .sub (.bits (.bin .band (.var 0) (.neg (.var 0)))) (.cst (.int 1))))
    .nil)
def f_least_bit : FnD := ⟨"least_bit", ["mask"], ["mask"], top 14, [], false, b_least_bit⟩
theorem r_least_bit : resB 80 ⟨⟨f_least_bit.N, tb⟩, defScope f_least_bit.st, locOf (defScope f_least_bit.st), f_least_bit.muts, f_least_bit.τ⟩ (defBody f_least_bit.st) = some b_least_bit := by kernel_rfl
theorem o_least_bit : f_least_bit.Ok tb := ⟨r_least_bit, ⟨rfl, rfl, rfl, by decide +kernel, rfl, by decide +kernel, by decide +kernel⟩, fun h => nomatch h⟩
def b_span_text : B := (.cons (.ret (.ite (.val (.cmp .eq (.var 0) (.var 1))) (.bif .str (.cons (.var 0) .nil)) (.fs (.cons (.fmt (.var 0)) (.cons (.cst (.str "..")) (.cons (.fmt (.var 1)) .nil))))))
    .nil)
def f_span_text : FnD := ⟨"_span_text", ["low", "high"], ["low", "high"], top 16, [], false, b_span_text⟩
theorem r_span_text : resB 80 ⟨⟨f_span_text.N, tb⟩, defScope f_span_text.st, locOf (defScope f_span_text.st), f_span_text.muts, f_span_text.τ⟩ (defBody f_span_text.st) = some b_span_text := by kernel_rfl
theorem o_span_text : f_span_text.Ok tb := ⟨r_span_text, ⟨rfl, rfl, rfl, by decide +kernel, rfl, by decide +kernel, by decide +kernel⟩, fun h => nomatch h⟩
def b_set_of : B := (.cons (.ret (.call 5 (.cons (.call 0 (.cons (.var 0) .nil)) .nil)))
    .nil)
def f_set_of : FnD := ⟨"set_of", ["condition"], ["condition"], top 17, [], false, b_set_of⟩
theorem r_set_of : resB 80 ⟨⟨f_set_of.N, tb⟩, defScope f_set_of.st, locOf (defScope f_set_of.st), f_set_of.muts, f_set_of.τ⟩ (defBody f_set_of.st) = some b_set_of := by kernel_rfl
theorem o_set_of : f_set_of.Ok tb := ⟨r_set_of, ⟨rfl, rfl, rfl, by decide +kernel, rfl, by decide +kernel, by decide +kernel⟩, fun h => nomatch h⟩
def b_is_in : B := (.cons (.set (.tp [2, 3]) (.idx (.var 0) (.cst (.int 1))))
    (.cons (.ifs (.val (.cmp .ge (.var 1) (.var 3))) (.cons (.ret (.cmp .in_ (.bin .mod (.bif .int (.cons (.var 1) .nil)) (.idx (.var 0) (.cst (.int 2)))) (.idx (.var 0) (.cst (.int 3)))))
    .nil) .nil)
    (.cons (.ret (.bif .any (.cons (.comp [4, 5] (.tp [4, 5]) (.seq (.var 2)) .yes (.chn .le .le (.var 4) (.var 1) (.var 5))) .nil)))
    .nil)))
def f_is_in : FnD := ⟨"is_in", ["one", "n"], ["one", "n", "spans", "start", "first", "last"], top 18, [], false, b_is_in⟩
theorem r_is_in : resB 80 ⟨⟨f_is_in.N, tb⟩, defScope f_is_in.st, locOf (defScope f_is_in.st), f_is_in.muts, f_is_in.τ⟩ (defBody f_is_in.st) = some b_is_in := by kernel_rfl
theorem o_is_in : f_is_in.Ok tb := ⟨r_is_in, ⟨rfl, rfl, rfl, by decide +kernel, rfl, by decide +kernel, by decide +kernel⟩, fun h => nomatch h⟩
def b_union : B := (.cons (.ret (.call 5 (.cons (.bin .bor (.call 4 (.cons (.var 0) .nil)) (.call 4 (.cons (.var 1) .nil))) .nil)))
    .nil)
def f_union : FnD := ⟨"union", ["one", "other"], ["one", "other"], top 19, [], false, b_union⟩
theorem r_union : resB 80 ⟨⟨f_union.N, tb⟩, defScope f_union.st, locOf (defScope f_union.st), f_union.muts, f_union.τ⟩ (defBody f_union.st) = some b_union := by kernel_rfl
theorem o_union : f_union.Ok tb := ⟨r_union, ⟨rfl, rfl, rfl, by decide +kernel, rfl, by decide +kernel, by decide +kernel⟩, fun h => nomatch h⟩
def b_both : B := (.cons (.ret (.call 5 (.cons (.bin .band (.call 4 (.cons (.var 0) .nil)) (.call 4 (.cons (.var 1) .nil))) .nil)))
    .nil)
def f_both : FnD := ⟨"both", ["one", "other"], ["one", "other"], top 20, [], false, b_both⟩
theorem r_both : resB 80 ⟨⟨f_both.N, tb⟩, defScope f_both.st, locOf (defScope f_both.st), f_both.muts, f_both.τ⟩ (defBody f_both.st) = some b_both := by kernel_rfl
theorem o_both : f_both.Ok tb := ⟨r_both, ⟨rfl, rfl, rfl, by decide +kernel, rfl, by decide +kernel, by decide +kernel⟩, fun h => nomatch h⟩
def b_without : B := (.cons (.ret (.call 5 (.cons (.bin .band (.call 4 (.cons (.var 0) .nil)) (.inv (.call 4 (.cons (.var 1) .nil)))) .nil)))
    .nil)
def f_without : FnD := ⟨"without", ["one", "other"], ["one", "other"], top 21, [], false, b_without⟩
theorem r_without : resB 80 ⟨⟨f_without.N, tb⟩, defScope f_without.st, locOf (defScope f_without.st), f_without.muts, f_without.τ⟩ (defBody f_without.st) = some b_without := by kernel_rfl
theorem o_without : f_without.Ok tb := ⟨r_without, ⟨rfl, rfl, rfl, by decide +kernel, rfl, by decide +kernel, by decide +kernel⟩, fun h => nomatch h⟩
def b_least : B := (.cons (.set (.tp [2, 3]) (.idx (.var 0) (.cst (.int 1))))
    (.cons (.for_ (.tp [4, 5]) (.seq (.var 2)) (.cons (.ifs (.val (.cmp .le (.var 1) (.var 5))) (.cons (.ret (.bif .max (.cons (.var 4) (.cons (.var 1) .nil))))
    .nil) .nil)
    .nil))
    (.cons (.ifs (.not (.val (.idx (.var 0) (.cst (.int 3))))) (.cons (.ret (.cst .non))
    .nil) .nil)
    (.cons (.set (.nm 6) (.bif .max (.cons (.var 3) (.cons (.var 1) .nil))))
    (.cons (.set (.nm 7) (.bin .mod (.bif .int (.cons (.var 6) .nil)) (.idx (.var 0) (.cst (.int 2)))))
    (.cons (.set (.nm 8) (.comp [9] (.nm 9) (.seq (.idx (.var 0) (.cst (.int 3)))) (.val (.cmp .ge (.var 9) (.var 7))) (.var 9)))
    (.cons (.ifs (.val (.var 8)) (.cons (.ret (.bin .add (.bin .sub (.var 6) (.var 7)) (.idx (.var 8) (.cst (.int 0)))))
    .nil) .nil)
    (.cons (.ret (.bin .add (.bin .add (.bin .sub (.var 6) (.var 7)) (.idx (.var 0) (.cst (.int 2)))) (.idx (.idx (.var 0) (.cst (.int 3))) (.cst (.int 0)))))
    .nil))))))))
def f_least : FnD := ⟨"least", ["one", "n"], ["one", "n", "spans", "start", "first", "last", "low", "rest", "later", "member"], top 22, [], false, b_least⟩
theorem r_least : resB 80 ⟨⟨f_least.N, tb⟩, defScope f_least.st, locOf (defScope f_least.st), f_least.muts, f_least.τ⟩ (defBody f_least.st) = some b_least := by kernel_rfl
theorem o_least : f_least.Ok tb := ⟨r_least, ⟨rfl, rfl, rfl, by decide +kernel, rfl, by decide +kernel, by decide +kernel⟩, fun h => nomatch h⟩
def b_size : B := (.cons (.ifs (.val (.idx (.var 0) (.cst (.int 3)))) (.cons (.ret (.cst .non))
    .nil) .nil)
    (.cons (.ret (.bif .sum (.cons (.comp [1, 2] (.tp [1, 2]) (.seq (.idx (.idx (.var 0) (.cst (.int 1))) (.cst (.int 0)))) .yes (.bin .add (.bin .sub (.var 2) (.var 1)) (.cst (.int 1)))) .nil)))
    .nil))
def f_size : FnD := ⟨"size", ["one"], ["one", "first", "last"], top 23, [], false, b_size⟩
theorem r_size : resB 80 ⟨⟨f_size.N, tb⟩, defScope f_size.st, locOf (defScope f_size.st), f_size.muts, f_size.τ⟩ (defBody f_size.st) = some b_size := by kernel_rfl
theorem o_size : f_size.Ok tb := ⟨r_size, ⟨rfl, rfl, rfl, by decide +kernel, rfl, by decide +kernel, by decide +kernel⟩, fun h => nomatch h⟩
def b_show_set : B := (.cons (.set (.tp [1, 2]) (.idx (.var 0) (.cst (.int 1))))
    (.cons (.new 3 (.ite (.val (.var 1)) (.lst (.cons (.met .join (.cst (.str ",")) (.cons (.comp [5, 6] (.tp [5, 6]) (.seq (.var 1)) .yes (.call 9 (.cons (.var 5) (.cons (.var 6) .nil)))) .nil)) .nil)) (.lst .nil)))
    (.cons (.ifs (.val (.idx (.var 0) (.cst (.int 3)))) (.cons (.set (.nm 4) (.met .join (.cst (.str " ")) (.cons (.comp [7] (.nm 7) (.seq (.idx (.var 0) (.cst (.int 3)))) .yes (.bif .str (.cons (.var 7) .nil))) .nil)))
    (.cons (.expr (.met .append (.var 3) (.cons (.fs (.cons (.cst (.str "from ")) (.cons (.fmt (.var 2)) (.cons (.cst (.str " by ")) (.cons (.fmt (.idx (.var 0) (.cst (.int 2)))) (.cons (.cst (.str ": ")) (.cons (.fmt (.var 4)) .nil))))))) .nil)))
    .nil)) .nil)
    (.cons (.ret (.ite (.val (.var 3)) (.met .join (.cst (.str "; ")) (.cons (.var 3) .nil)) (.cst (.str "none"))))
    .nil))))
def f_show_set : FnD := ⟨"show_set", ["one"], ["one", "spans", "start", "texts", "rests", "first", "last", "rest"], top 24, ["texts"], false, b_show_set⟩
theorem r_show_set : resB 80 ⟨⟨f_show_set.N, tb⟩, defScope f_show_set.st, locOf (defScope f_show_set.st), f_show_set.muts, f_show_set.τ⟩ (defBody f_show_set.st) = some b_show_set := by kernel_rfl
theorem o_show_set : f_show_set.Ok tb := ⟨r_show_set, ⟨rfl, rfl, rfl, by decide +kernel, rfl, by decide +kernel, by decide +kernel⟩, fun h => nomatch h⟩
def b_law_cell : B := (.cons (.ifs (.val (.cmp .lt (.var 1) (.bif .len (.cons (.var 0) .nil)))) (.cons (.ret (.idx (.var 0) (.var 1)))
    .nil) .nil)
    (.cons (.ret (.cst (.int 0)))
    .nil))
def f_law_cell : FnD := ⟨"_law_cell", ["script", "k"], ["script", "k"], top 26, [], false, b_law_cell⟩
theorem r_law_cell : resB 80 ⟨⟨f_law_cell.N, tb⟩, defScope f_law_cell.st, locOf (defScope f_law_cell.st), f_law_cell.muts, f_law_cell.τ⟩ (defBody f_law_cell.st) = some b_law_cell := by kernel_rfl
theorem o_law_cell : f_law_cell.Ok tb := ⟨r_law_cell, ⟨rfl, rfl, rfl, by decide +kernel, rfl, by decide +kernel, by decide +kernel⟩, fun h => nomatch h⟩
def b_law_digits : B := (.cons (.new 3 (.lst .nil))
    (.cons (.for_ (.nm 4) (.rng2 (.var 1) (.var 2)) (.cons (.set (.nm 5) (.call 18 (.cons (.var 0) (.cons (.var 4) .nil))))
    (.cons (.ifs (.val (.cmp .lt (.var 5) (.cst (.int 0)))) (.cons (.set (.nm 5) (.bin .sub (.cst (.int 1)) (.bin .mul (.cst (.int 2)) (.var 5))))
    .nil) .nil)
    (.cons (.ifs (.val (.cmp .gt (.bif .len (.cons (.var 3) .nil)) (.cst (.int 1500)))) (.cons .brk
    .nil) .nil)
    (.cons (.ifs (.val (.cmp .ge (.var 5) (.bin .pow (.cst (.int 10)) (.cst (.int 18))))) (.cons (.for_ (.nm 6) (.rng1 (.cst (.int 60))) (.cons (.ifs (.val (.cmp .gt (.var 5) (.cst (.int 0)))) (.cons (.expr (.met .append (.var 3) (.cons (.bin .mod (.bif .int (.cons (.var 5) .nil)) (.cst (.int 1000))) .nil)))
    (.cons (.set (.nm 5) (.bin .fdiv (.var 5) (.cst (.int 1000))))
    .nil)) .nil)
    .nil))
    .nil) (.cons (.set (.nm 7) (.bin .mod (.bif .int (.cons (.bin .add (.bin .add (.bin .mul (.var 5) (.cst (.int 48271))) (.bin .mul (.var 4) (.cst (.int 69621)))) (.cst (.int 11))) .nil)) (.cst (.int 2147483647))))
    (.cons (.for_ (.nm 6) (.rng1 (.cst (.int 12))) (.cons (.set (.nm 7) (.bin .mod (.bif .int (.cons (.bin .add (.bin .add (.bin .mul (.var 7) (.cst (.int 16807))) (.bin .mul (.cst (.int 7)) (.var 6))) (.cst (.int 1))) .nil)) (.cst (.int 2147483647))))
    (.cons (.expr (.met .append (.var 3) (.cons (.bin .mod (.bif .int (.cons (.bin .fdiv (.var 7) (.cst (.int 997))) .nil)) (.cst (.int 1000))) .nil)))
    .nil)))
    .nil)))
    .nil)))))
    (.cons (.ret (.var 3))
    .nil)))
def f_law_digits : FnD := ⟨"_law_digits", ["script", "first", "last"], ["script", "first", "last", "digits", "k", "cell", "turn", "seed"], top 27, ["digits"], false, b_law_digits⟩
theorem r_law_digits : resB 80 ⟨⟨f_law_digits.N, tb⟩, defScope f_law_digits.st, locOf (defScope f_law_digits.st), f_law_digits.muts, f_law_digits.τ⟩ (defBody f_law_digits.st) = some b_law_digits := by kernel_rfl
theorem o_law_digits : f_law_digits.Ok tb := ⟨r_law_digits, ⟨rfl, rfl, rfl, by decide +kernel, rfl, by decide +kernel, by decide +kernel⟩, fun h => nomatch h⟩
def b_law_draw : B := (.cons (.set (.nm 2) (.idx (.var 0) (.cst (.int 1))))
    (.cons (.setIx (.var 0) (.cst (.int 1)) (.bin .add (.var 2) (.cst (.int 1))))
    (.cons (.ifs (.val (.cmp .lt (.var 2) (.bif .len (.cons (.idx (.var 0) (.cst (.int 0))) .nil)))) (.cons (.ret (.bin .mod (.bif .int (.cons (.idx (.idx (.var 0) (.cst (.int 0))) (.var 2)) .nil)) (.var 1)))
    .nil) .nil)
    (.cons (.ret (.bin .mod (.bif .int (.cons (.bin .mul (.var 2) (.cst (.int 7))) .nil)) (.var 1)))
    .nil))))
def f_law_draw : FnD := ⟨"_law_draw", ["box", "many"], ["box", "many", "at"], top 28, ["box"], false, b_law_draw⟩
theorem r_law_draw : resB 80 ⟨⟨f_law_draw.N, tb⟩, defScope f_law_draw.st, locOf (defScope f_law_draw.st), f_law_draw.muts, f_law_draw.τ⟩ (defBody f_law_draw.st) = some b_law_draw := by kernel_rfl
theorem o_law_draw : f_law_draw.Ok tb := ⟨r_law_draw, ⟨rfl, rfl, rfl, by decide +kernel, rfl, by decide +kernel, by decide +kernel⟩, fun h => nomatch h⟩
def b_law_pick : B := (.cons (.ret (.idx (.var 1) (.bin .mod (.bif .int (.cons (.call 20 (.cons (.var 0) (.cons (.cst (.int 900)) .nil))) .nil)) (.bif .len (.cons (.var 1) .nil)))))
    .nil)
def f_law_pick : FnD := ⟨"_law_pick", ["box", "things"], ["box", "things"], top 29, [], false, b_law_pick⟩
theorem r_law_pick : resB 80 ⟨⟨f_law_pick.N, tb⟩, defScope f_law_pick.st, locOf (defScope f_law_pick.st), f_law_pick.muts, f_law_pick.τ⟩ (defBody f_law_pick.st) = some b_law_pick := by kernel_rfl
theorem o_law_pick : f_law_pick.Ok tb := ⟨r_law_pick, ⟨rfl, rfl, rfl, by decide +kernel, rfl, by decide +kernel, by decide +kernel⟩, fun h => nomatch h⟩
def b_law_like : B := (.cons (.ifs (.val (.isi (.var 1) .tuple)) (.cons (.ifs (.or (.not (.val (.isi (.var 0) .tuple))) (.val (.cmp .ne (.bif .len (.cons (.var 0) .nil)) (.bif .len (.cons (.var 1) .nil))))) (.cons (.ret (.cst (.bl false)))
    .nil) .nil)
    (.cons (.ret (.cmp .eq (.comp [2] (.nm 2) (.rng1 (.bif .len (.cons (.var 1) .nil))) (.not (.val (.call 22 (.cons (.idx (.var 0) (.var 2)) (.cons (.idx (.var 1) (.var 2)) .nil))))) (.cst (.int 1))) (.lst .nil)))
    .nil)) .nil)
    (.cons (.ifs (.val (.cmp .is_ (.var 1) (.cst .non))) (.cons (.ret (.cmp .is_ (.var 0) (.cst .non)))
    .nil) .nil)
    (.cons (.ifs (.val (.cmp .is_ (.var 1) (.cst (.bl true)))) (.cons (.ret (.cmp .is_ (.var 0) (.cst (.bl true))))
    .nil) .nil)
    (.cons (.ifs (.val (.cmp .is_ (.var 1) (.cst (.bl false)))) (.cons (.ret (.cmp .is_ (.var 0) (.cst (.bl false))))
    .nil) .nil)
    (.cons (.ifs (.val (.isi (.var 1) .str)) (.cons (.ret (.and (.isi (.var 0) .str) (.cmp .eq (.met .join (.cst (.str "")) (.cons (.lst (.cons (.var 0) .nil)) .nil)) (.var 1))))
    .nil) .nil)
    (.cons (.ret (.and (.isi (.var 0) .int) (.and (.notv (.val (.isi (.var 0) .bool))) (.cmp .eq (.var 0) (.var 1)))))
    .nil))))))
def f_law_like : FnD := ⟨"_law_like", ["told", "due"], ["told", "due", "k"], top 30, [], false, b_law_like⟩
theorem r_law_like : resB 80 ⟨⟨f_law_like.N, tb⟩, defScope f_law_like.st, locOf (defScope f_law_like.st), f_law_like.muts, f_law_like.τ⟩ (defBody f_law_like.st) = some b_law_like := by kernel_rfl
theorem o_law_like : f_law_like.Ok tb := ⟨r_law_like, ⟨rfl, rfl, rfl, by decide +kernel, rfl, by decide +kernel, by decide +kernel⟩, fun h => nomatch h⟩
def b_law_atom : B := (.cons (.set (.nm 2) (.call 20 (.cons (.var 0) (.cons (.cst (.int 6)) .nil))))
    (.cons (.ifs (.val (.cmp .eq (.var 2) (.cst (.int 0)))) (.cons (.ret (.tup (.cons (.cst (.str "not")) (.cons (.call 24 (.cons (.var 0) (.cons (.var 1) .nil))) .nil))))
    .nil) .nil)
    (.cons (.ret (.call 24 (.cons (.var 0) (.cons (.var 1) .nil))))
    .nil)))
def f_law_atom : FnD := ⟨"_law_atom", ["box", "great"], ["box", "great", "kind"], top 31, [], false, b_law_atom⟩
theorem r_law_atom : resB 80 ⟨⟨f_law_atom.N, tb⟩, defScope f_law_atom.st, locOf (defScope f_law_atom.st), f_law_atom.muts, f_law_atom.τ⟩ (defBody f_law_atom.st) = some b_law_atom := by kernel_rfl
theorem o_law_atom : f_law_atom.Ok tb := ⟨r_law_atom, ⟨rfl, rfl, rfl, by decide +kernel, rfl, by decide +kernel, by decide +kernel⟩, fun h => nomatch h⟩
def b_law_atom_plain : B := (.cons (.ifs (.val (.cmp .gt (.bif .len (.cons (.var 0) .nil)) (.cst (.int 3)))) (.cons (.set (.nm 2) (.call 20 (.cons (.var 0) (.cons (.cst (.int 4)) .nil))))
    (.cons (.ret (.tup (.cons (.cst (.str "in")) (.cons (.var 2) (.cons (.call 21 (.cons (.var 0) (.cons (.lst (.cons (.var 2) (.cons (.bif .min (.cons (.cst (.int 4)) (.cons (.bin .add (.var 2) (.call 20 (.cons (.var 0) (.cons (.cst (.int 3)) .nil)))) .nil))) (.cons (.cst .non) .nil)))) .nil))) .nil)))))
    .nil)) .nil)
    (.cons (.ifs (.val (.cmp .eq (.call 20 (.cons (.var 0) (.cons (.cst (.int 2)) .nil))) (.cst (.int 0)))) (.cons (.set (.nm 3) (.call 21 (.cons (.var 0) (.cons (.lst (.cons (.cst (.int 2)) (.cons (.cst (.int 4)) (.cons (.cst (.int 5)) (.cons (.cst (.int 10)) (.cons (.cst (.int 2)) (.cons (.cst (.int 10)) (.cons (.cst (.int 20)) (.cons (.cst (.int 4)) (.cons (.cst (.int 10)) (.cons (.cst (.int 25)) (.cons (.cst (.int 100)) .nil)))))))))))) .nil))))
    (.cons (.ifs (.val (.cmp .gt (.bif .len (.cons (.var 0) .nil)) (.cst (.int 2)))) (.cons (.set (.nm 3) (.call 21 (.cons (.var 0) (.cons (.lst (.cons (.cst (.int 2)) (.cons (.cst (.int 5)) (.cons (.cst (.int 10)) .nil)))) .nil))))
    .nil) .nil)
    (.cons (.set (.nm 2) (.call 20 (.cons (.var 0) (.cons (.var 3) .nil))))
    (.cons (.ret (.tup (.cons (.cst (.str "rest")) (.cons (.var 3) (.cons (.var 2) (.cons (.bin .add (.var 2) (.call 20 (.cons (.var 0) (.cons (.bin .sub (.var 3) (.var 2)) .nil)))) .nil))))))
    .nil)))) .nil)
    (.cons (.ifs (.val (.cmp .gt (.bif .len (.cons (.var 0) .nil)) (.cst (.int 2)))) (.cons (.set (.nm 2) (.call 20 (.cons (.var 0) (.cons (.cst (.int 10)) .nil))))
    (.cons (.ret (.tup (.cons (.cst (.str "in")) (.cons (.var 2) (.cons (.call 21 (.cons (.var 0) (.cons (.lst (.cons (.var 2) (.cons (.bin .add (.var 2) (.call 20 (.cons (.var 0) (.cons (.cst (.int 4)) .nil)))) (.cons (.cst .non) .nil)))) .nil))) .nil)))))
    .nil)) .nil)
    (.cons (.set (.nm 2) (.call 21 (.cons (.var 0) (.cons (.lst (.cons (.cst (.int 0)) (.cons (.cst (.int 1)) (.cons (.cst (.int 2)) (.cons (.cst (.int 5)) (.cons (.call 20 (.cons (.var 0) (.cons (.cst (.int 30)) .nil))) .nil)))))) .nil))))
    (.cons (.ifs (.and (.val (.var 1)) (.val (.cmp .eq (.call 20 (.cons (.var 0) (.cons (.cst (.int 6)) .nil))) (.cst (.int 0))))) (.cons (.set (.nm 2) (.call 21 (.cons (.var 0) (.cons (.lst (.cons (.cst (.int 100)) (.cons (.cst (.int 99)) (.cons (.cst (.int 50)) .nil)))) .nil))))
    .nil) .nil)
    (.cons (.set (.nm 4) (.call 21 (.cons (.var 0) (.cons (.lst (.cons (.var 2) (.cons (.bif .min (.cons (.cst (.int 100)) (.cons (.bin .add (.var 2) (.call 20 (.cons (.var 0) (.cons (.cst (.int 9)) .nil)))) .nil))) (.cons (.cst .non) .nil)))) .nil))))
    (.cons (.ret (.tup (.cons (.cst (.str "in")) (.cons (.var 2) (.cons (.var 4) .nil)))))
    .nil)))))))
def f_law_atom_plain : FnD := ⟨"_law_atom_plain", ["box", "great"], ["box", "great", "low", "m", "high"], top 32, [], false, b_law_atom_plain⟩
theorem r_law_atom_plain : resB 80 ⟨⟨f_law_atom_plain.N, tb⟩, defScope f_law_atom_plain.st, locOf (defScope f_law_atom_plain.st), f_law_atom_plain.muts, f_law_atom_plain.τ⟩ (defBody f_law_atom_plain.st) = some b_law_atom_plain := by kernel_rfl
theorem o_law_atom_plain : f_law_atom_plain.Ok tb := ⟨r_law_atom_plain, ⟨rfl, rfl, rfl, by decide +kernel, rfl, by decide +kernel, by decide +kernel⟩, fun h => nomatch h⟩
def b_law_number_condition : B := (.cons (.ret (.bif .tuple (.cons (.comp [3] (.nm 3) (.rng1 (.bin .add (.cst (.int 1)) (.call 20 (.cons (.var 0) (.cons (.cst (.int 3)) .nil))))) .yes (.bif .tuple (.cons (.comp [2] (.nm 2) (.rng1 (.bin .add (.cst (.int 1)) (.call 20 (.cons (.var 0) (.cons (.cst (.int 3)) .nil))))) .yes (.call 23 (.cons (.var 0) (.cons (.var 1) .nil)))) .nil))) .nil)))
    .nil)
def f_law_number_condition : FnD := ⟨"_law_number_condition", ["box", "great"], ["box", "great", "j", "k"], top 33, [], false, b_law_number_condition⟩
theorem r_law_number_condition : resB 80 ⟨⟨f_law_number_condition.N, tb⟩, defScope f_law_number_condition.st, locOf (defScope f_law_number_condition.st), f_law_number_condition.muts, f_law_number_condition.τ⟩ (defBody f_law_number_condition.st) = some b_law_number_condition := by kernel_rfl
theorem o_law_number_condition : f_law_number_condition.Ok tb := ⟨r_law_number_condition, ⟨rfl, rfl, rfl, by decide +kernel, rfl, by decide +kernel, by decide +kernel⟩, fun h => nomatch h⟩
def b_law_atom_holds : B := (.cons (.ifs (.val (.cmp .eq (.idx (.var 0) (.cst (.int 0))) (.cst (.str "not")))) (.cons (.ret (.notv (.val (.call 26 (.cons (.idx (.var 0) (.cst (.int 1))) (.cons (.var 1) .nil))))))
    .nil) .nil)
    (.cons (.ifs (.val (.cmp .eq (.idx (.var 0) (.cst (.int 0))) (.cst (.str "rest")))) (.cons (.ret (.chn .le .le (.idx (.var 0) (.cst (.int 2))) (.bin .mod (.bif .int (.cons (.var 1) .nil)) (.idx (.var 0) (.cst (.int 1)))) (.idx (.var 0) (.cst (.int 3)))))
    .nil) .nil)
    (.cons (.ret (.and (.cmp .le (.idx (.var 0) (.cst (.int 1))) (.var 1)) (.or (.cmp .is_ (.idx (.var 0) (.cst (.int 2))) (.cst .non)) (.cmp .le (.var 1) (.idx (.var 0) (.cst (.int 2)))))))
    .nil)))
def f_law_atom_holds : FnD := ⟨"_law_atom_holds", ["atom", "n"], ["atom", "n"], top 34, [], false, b_law_atom_holds⟩
theorem r_law_atom_holds : resB 80 ⟨⟨f_law_atom_holds.N, tb⟩, defScope f_law_atom_holds.st, locOf (defScope f_law_atom_holds.st), f_law_atom_holds.muts, f_law_atom_holds.τ⟩ (defBody f_law_atom_holds.st) = some b_law_atom_holds := by kernel_rfl
theorem o_law_atom_holds : f_law_atom_holds.Ok tb := ⟨r_law_atom_holds, ⟨rfl, rfl, rfl, by decide +kernel, rfl, by decide +kernel, by decide +kernel⟩, fun h => nomatch h⟩
def b_law_number_holds : B := (.cons (.ret (.cmp .ne (.comp [2] (.nm 2) (.seq (.var 0)) (.val (.cmp .eq (.comp [3] (.nm 3) (.seq (.var 2)) (.not (.val (.call 26 (.cons (.var 3) (.cons (.var 1) .nil))))) (.var 3)) (.lst .nil))) (.var 2)) (.lst .nil)))
    .nil)
def f_law_number_holds : FnD := ⟨"_law_number_holds", ["condition", "n"], ["condition", "n", "atoms", "atom"], top 35, [], false, b_law_number_holds⟩
theorem r_law_number_holds : resB 80 ⟨⟨f_law_number_holds.N, tb⟩, defScope f_law_number_holds.st, locOf (defScope f_law_number_holds.st), f_law_number_holds.muts, f_law_number_holds.τ⟩ (defBody f_law_number_holds.st) = some b_law_number_holds := by kernel_rfl
theorem o_law_number_holds : f_law_number_holds.Ok tb := ⟨r_law_number_holds, ⟨rfl, rfl, rfl, by decide +kernel, rfl, by decide +kernel, by decide +kernel⟩, fun h => nomatch h⟩
def b_law_bare_atom : B := (.cons (.ret (.idx (.lst (.cons (.var 0) (.cons (.idx (.var 0) (.neg (.cst (.int 1)))) .nil))) (.bif .int (.cons (.cmp .eq (.idx (.var 0) (.cst (.int 0))) (.cst (.str "not"))) .nil))))
    .nil)
def f_law_bare_atom : FnD := ⟨"_law_bare_atom", ["atom"], ["atom"], top 36, [], false, b_law_bare_atom⟩
theorem r_law_bare_atom : resB 80 ⟨⟨f_law_bare_atom.N, tb⟩, defScope f_law_bare_atom.st, locOf (defScope f_law_bare_atom.st), f_law_bare_atom.muts, f_law_bare_atom.τ⟩ (defBody f_law_bare_atom.st) = some b_law_bare_atom := by kernel_rfl
theorem o_law_bare_atom : f_law_bare_atom.Ok tb := ⟨r_law_bare_atom, ⟨rfl, rfl, rfl, by decide +kernel, rfl, by decide +kernel, by decide +kernel⟩, fun h => nomatch h⟩
def b_law_atoms : B := (.cons (.set (.nm 1) (.lst .nil))
    (.cons (.for_ (.nm 2) (.seq (.var 0)) (.cons (.for_ (.nm 3) (.seq (.var 2)) (.cons (.set (.nm 1) (.bin .add (.var 1) (.comp [4] (.nm 4) (.seq (.var 3)) .yes (.call 28 (.cons (.var 4) .nil)))))
    .nil))
    .nil))
    (.cons (.ret (.var 1))
    .nil)))
def f_law_atoms : FnD := ⟨"_law_atoms", ["conditions"], ["conditions", "found", "condition", "atoms", "atom"], top 37, [], false, b_law_atoms⟩
theorem r_law_atoms : resB 80 ⟨⟨f_law_atoms.N, tb⟩, defScope f_law_atoms.st, locOf (defScope f_law_atoms.st), f_law_atoms.muts, f_law_atoms.τ⟩ (defBody f_law_atoms.st) = some b_law_atoms := by kernel_rfl
theorem o_law_atoms : f_law_atoms.Ok tb := ⟨r_law_atoms, ⟨rfl, rfl, rfl, by decide +kernel, rfl, by decide +kernel, by decide +kernel⟩, fun h => nomatch h⟩
def b_law_common : B := (.cons (.set (.nm 2) (.var 0))
    (.cons (.for_ (.nm 3) (.rng1 (.var 1)) (.cons (.ifs (.val (.cmp .eq (.bin .mod (.bif .int (.cons (.var 2) .nil)) (.var 1)) (.cst (.int 0)))) (.cons .brk
    .nil) .nil)
    (.cons (.set (.nm 2) (.bin .add (.var 2) (.var 0)))
    .nil)))
    (.cons (.ret (.var 2))
    .nil)))
def f_law_common : FnD := ⟨"_law_common", ["one", "other"], ["one", "other", "many", "turn"], top 38, [], false, b_law_common⟩
theorem r_law_common : resB 80 ⟨⟨f_law_common.N, tb⟩, defScope f_law_common.st, locOf (defScope f_law_common.st), f_law_common.muts, f_law_common.τ⟩ (defBody f_law_common.st) = some b_law_common := by kernel_rfl
theorem o_law_common : f_law_common.Ok tb := ⟨r_law_common, ⟨rfl, rfl, rfl, by decide +kernel, rfl, by decide +kernel, by decide +kernel⟩, fun h => nomatch h⟩
def b_law_period : B := (.cons (.set (.nm 1) (.cst (.int 1)))
    (.cons (.for_ (.nm 2) (.seq (.call 29 (.cons (.var 0) .nil))) (.cons (.ifs (.val (.cmp .eq (.idx (.var 2) (.cst (.int 0))) (.cst (.str "rest")))) (.cons (.set (.nm 1) (.call 30 (.cons (.var 1) (.cons (.idx (.var 2) (.cst (.int 1))) .nil))))
    .nil) .nil)
    .nil))
    (.cons (.ret (.var 1))
    .nil)))
def f_law_period : FnD := ⟨"_law_period", ["conditions"], ["conditions", "period", "atom"], top 39, [], false, b_law_period⟩
theorem r_law_period : resB 80 ⟨⟨f_law_period.N, tb⟩, defScope f_law_period.st, locOf (defScope f_law_period.st), f_law_period.muts, f_law_period.τ⟩ (defBody f_law_period.st) = some b_law_period := by kernel_rfl
theorem o_law_period : f_law_period.Ok tb := ⟨r_law_period, ⟨rfl, rfl, rfl, by decide +kernel, rfl, by decide +kernel, by decide +kernel⟩, fun h => nomatch h⟩
def b_law_bound : B := (.cons (.new 1 (.lst (.cons (.cst (.int 0)) .nil)))
    (.cons (.for_ (.nm 2) (.seq (.call 29 (.cons (.var 0) .nil))) (.cons (.ifs (.val (.cmp .eq (.idx (.var 2) (.cst (.int 0))) (.cst (.str "in")))) (.cons (.new 1 (.bin .add (.var 1) (.lst (.cons (.bin .add (.idx (.var 2) (.cst (.int 1))) (.cst (.int 1))) .nil))))
    (.cons (.ifs (.val (.cmp .isnot (.idx (.var 2) (.cst (.int 2))) (.cst .non))) (.cons (.expr (.met .append (.var 1) (.cons (.bin .add (.idx (.var 2) (.cst (.int 2))) (.cst (.int 1))) .nil)))
    .nil) .nil)
    .nil)) .nil)
    .nil))
    (.cons (.ret (.bif .max (.cons (.var 1) .nil)))
    .nil)))
def f_law_bound : FnD := ⟨"_law_bound", ["conditions"], ["conditions", "found", "atom"], top 40, ["found"], false, b_law_bound⟩
theorem r_law_bound : resB 80 ⟨⟨f_law_bound.N, tb⟩, defScope f_law_bound.st, locOf (defScope f_law_bound.st), f_law_bound.muts, f_law_bound.τ⟩ (defBody f_law_bound.st) = some b_law_bound := by kernel_rfl
theorem o_law_bound : f_law_bound.Ok tb := ⟨r_law_bound, ⟨rfl, rfl, rfl, by decide +kernel, rfl, by decide +kernel, by decide +kernel⟩, fun h => nomatch h⟩
def b_law_set_of_flags : B := (.cons (.set (.nm 3) (.comp [10] (.nm 10) (.rng2 (.cst (.int 1)) (.bin .add (.var 2) (.cst (.int 1)))) (.and (.val (.cmp .eq (.bin .mod (.bif .int (.cons (.var 2) .nil)) (.var 10)) (.cst (.int 0)))) (.val (.cmp .eq (.comp [8] (.nm 8) (.rng2 (.var 1) (.bin .add (.var 1) (.var 2))) (.val (.cmp .ne (.idx (.var 0) (.var 8)) (.idx (.var 0) (.bin .add (.var 8) (.var 10))))) (.var 8)) (.lst .nil)))) (.var 10)))
    (.cons (.set (.nm 4) (.idx (.var 3) (.cst (.int 0))))
    (.cons (.set (.nm 5) (.var 1))
    (.cons (.for_ (.nm 6) (.rng1 (.var 1)) (.cons (.ifs (.val (.cmp .ne (.idx (.var 0) (.bin .sub (.var 5) (.cst (.int 1)))) (.idx (.var 0) (.bin .add (.bin .sub (.var 5) (.cst (.int 1))) (.var 4))))) (.cons .brk
    .nil) .nil)
    (.cons (.set (.nm 5) (.bin .sub (.var 5) (.cst (.int 1))))
    .nil)))
    (.cons (.new 7 (.lst .nil))
    (.cons (.for_ (.nm 8) (.rng1 (.var 5)) (.cons (.ifs (.and (.val (.idx (.var 0) (.var 8))) (.or (.val (.cmp .eq (.var 8) (.cst (.int 0)))) (.not (.val (.idx (.var 0) (.bin .sub (.var 8) (.cst (.int 1)))))))) (.cons (.expr (.met .append (.var 7) (.cons (.tup (.cons (.var 8) (.cons (.var 8) .nil))) .nil)))
    .nil) (.cons (.ifs (.val (.idx (.var 0) (.var 8))) (.cons (.setIx (.var 7) (.neg (.cst (.int 1))) (.tup (.cons (.idx (.idx (.var 7) (.neg (.cst (.int 1)))) (.cst (.int 0))) (.cons (.var 8) .nil))))
    .nil) .nil)
    .nil))
    .nil))
    (.cons (.set (.nm 9) (.bif .sorted (.cons (.comp [8] (.nm 8) (.rng2 (.var 5) (.bin .add (.var 5) (.var 4))) (.val (.idx (.var 0) (.var 8))) (.bin .mod (.bif .int (.cons (.var 8) .nil)) (.var 4))) .nil)))
    (.cons (.ret (.tup (.cons (.cst (.str "set")) (.cons (.tup (.cons (.bif .tuple (.cons (.var 7) .nil)) (.cons (.var 5) .nil))) (.cons (.var 4) (.cons (.bif .tuple (.cons (.var 9) .nil)) .nil))))))
    .nil))))))))
def f_law_set_of_flags : FnD := ⟨"_law_set_of_flags", ["flags", "bound", "period"], ["flags", "bound", "period", "steps", "step", "start", "turn", "spans", "n", "rests", "p"], top 41, ["spans"], false, b_law_set_of_flags⟩
theorem r_law_set_of_flags : resB 80 ⟨⟨f_law_set_of_flags.N, tb⟩, defScope f_law_set_of_flags.st, locOf (defScope f_law_set_of_flags.st), f_law_set_of_flags.muts, f_law_set_of_flags.τ⟩ (defBody f_law_set_of_flags.st) = some b_law_set_of_flags := by kernel_rfl
theorem o_law_set_of_flags : f_law_set_of_flags.Ok tb := ⟨r_law_set_of_flags, ⟨rfl, rfl, rfl, by decide +kernel, rfl, by decide +kernel, by decide +kernel⟩, fun h => nomatch h⟩
def b_law_set_text : B := (.cons (.set (.nm 1) (.met .join (.cst (.str ",")) (.cons (.comp [3, 4] (.tp [3, 4]) (.seq (.idx (.idx (.var 0) (.cst (.int 1))) (.cst (.int 0)))) .yes (.bin .add (.bif .str (.cons (.var 3) .nil)) (.bin .mul (.bin .add (.cst (.str "..")) (.bif .str (.cons (.var 4) .nil))) (.bif .int (.cons (.cmp .ne (.var 3) (.var 4)) .nil))))) .nil)))
    (.cons (.set (.nm 2) (.bin .add (.bin .add (.bin .add (.bin .add (.bin .add (.cst (.str "from ")) (.bif .str (.cons (.idx (.idx (.var 0) (.cst (.int 1))) (.cst (.int 1))) .nil))) (.cst (.str " by "))) (.bif .str (.cons (.idx (.var 0) (.cst (.int 2))) .nil))) (.cst (.str ": "))) (.met .join (.cst (.str " ")) (.cons (.comp [5] (.nm 5) (.seq (.idx (.var 0) (.cst (.int 3)))) .yes (.bif .str (.cons (.var 5) .nil))) .nil))))
    (.cons (.ifs (.val (.cmp .eq (.idx (.var 0) (.cst (.int 3))) (.tup .nil))) (.cons (.ret (.or (.var 1) (.cst (.str "none"))))
    .nil) .nil)
    (.cons (.ifs (.val (.cmp .eq (.var 1) (.cst (.str "")))) (.cons (.ret (.var 2))
    .nil) .nil)
    (.cons (.ret (.bin .add (.bin .add (.var 1) (.cst (.str "; "))) (.var 2)))
    .nil)))))
def f_law_set_text : FnD := ⟨"_law_set_text", ["one"], ["one", "spans", "rests", "first", "last", "rest"], top 42, [], false, b_law_set_text⟩
theorem r_law_set_text : resB 80 ⟨⟨f_law_set_text.N, tb⟩, defScope f_law_set_text.st, locOf (defScope f_law_set_text.st), f_law_set_text.muts, f_law_set_text.τ⟩ (defBody f_law_set_text.st) = some b_law_set_text := by kernel_rfl
theorem o_law_set_text : f_law_set_text.Ok tb := ⟨r_law_set_text, ⟨rfl, rfl, rfl, by decide +kernel, rfl, by decide +kernel, by decide +kernel⟩, fun h => nomatch h⟩
def b_law : B := (.cons (.new 1 (.lst (.cons (.call 19 (.cons (.var 0) (.cons (.cst (.int 0)) (.cons (.cst (.int 63)) .nil)))) (.cons (.cst (.int 0)) .nil))))
    (.cons (.for_ (.nm 2) (.rng1 (.cst (.int 2))) (.cons (.set (.nm 3) (.comp [9] (.nm 9) (.rng1 (.cst (.int 2))) .yes (.call 25 (.cons (.var 1) (.cons (.cst (.bl false)) .nil)))))
    (.cons (.set (.nm 4) (.call 31 (.cons (.var 3) .nil)))
    (.cons (.set (.nm 5) (.call 32 (.cons (.var 3) .nil)))
    (.cons (.set (.nm 6) (.bin .add (.var 5) (.bin .mul (.cst (.int 3)) (.var 4))))
    (.cons (.set (.nm 7) (.comp [17] (.nm 17) (.seq (.var 3)) .yes (.comp [12] (.nm 12) (.rng1 (.var 6)) .yes (.call 27 (.cons (.var 17) (.cons (.var 12) .nil))))))
    (.cons (.set (.nm 8) (.comp [17] (.nm 17) (.seq (.var 3)) .yes (.call 10 (.cons (.var 17) .nil))))
    (.cons (.for_ (.nm 9) (.rng1 (.cst (.int 2))) (.cons (.set (.nm 10) (.call 33 (.cons (.idx (.var 7) (.var 9)) (.cons (.var 5) (.cons (.var 4) .nil)))))
    (.cons (.ifs (.or (.not (.val (.call 22 (.cons (.idx (.var 8) (.var 9)) (.cons (.var 10) .nil))))) (.not (.val (.call 22 (.cons (.call 17 (.cons (.idx (.var 8) (.var 9)) .nil)) (.cons (.call 34 (.cons (.var 10) .nil)) .nil)))))) (.cons (.ret (.cst (.bl false)))
    .nil) .nil)
    (.cons (.set (.nm 11) (.comp [12] (.nm 12) (.rng1 (.var 6)) (.val (.idx (.idx (.var 7) (.var 9)) (.var 12))) (.var 12)))
    (.cons (.ifs (.not (.val (.call 22 (.cons (.call 16 (.cons (.idx (.var 8) (.var 9)) .nil)) (.cons (.idx (.lst (.cons (.bif .len (.cons (.var 11) .nil)) (.cons (.cst .non) .nil))) (.bif .int (.cons (.cmp .ne (.idx (.var 10) (.cst (.int 3))) (.tup .nil)) .nil))) .nil))))) (.cons (.ret (.cst (.bl false)))
    .nil) .nil)
    (.cons (.for_ (.nm 12) (.seq (.lst (.cons (.cst (.int 0)) (.cons (.call 20 (.cons (.var 1) (.cons (.bin .add (.var 5) (.cst (.int 1))) .nil))) (.cons (.var 5) (.cons (.bin .add (.var 5) (.call 20 (.cons (.var 1) (.cons (.var 4) .nil)))) .nil)))))) (.cons (.ifs (.or (.not (.val (.call 22 (.cons (.call 15 (.cons (.idx (.var 8) (.var 9)) (.cons (.var 12) .nil))) (.cons (.idx (.bin .add (.comp [18] (.nm 18) (.seq (.var 11)) (.val (.cmp .ge (.var 18) (.var 12))) (.var 18)) (.lst (.cons (.cst .non) .nil))) (.cst (.int 0))) .nil))))) (.not (.val (.call 22 (.cons (.call 11 (.cons (.idx (.var 8) (.var 9)) (.cons (.var 12) .nil))) (.cons (.idx (.idx (.var 7) (.var 9)) (.var 12)) .nil)))))) (.cons (.ret (.cst (.bl false)))
    .nil) .nil)
    .nil))
    .nil))))))
    (.cons (.set (.tp [13, 14]) (.var 7))
    (.cons (.set (.nm 15) (.lst (.cons (.comp [12] (.nm 12) (.rng1 (.var 6)) .yes (.or (.idx (.var 13) (.var 12)) (.idx (.var 14) (.var 12)))) (.cons (.comp [12] (.nm 12) (.rng1 (.var 6)) .yes (.and (.idx (.var 13) (.var 12)) (.idx (.var 14) (.var 12)))) (.cons (.comp [12] (.nm 12) (.rng1 (.var 6)) .yes (.and (.idx (.var 13) (.var 12)) (.notv (.val (.idx (.var 14) (.var 12)))))) .nil)))))
    (.cons (.set (.nm 16) (.lst (.cons (.call 12 (.cons (.idx (.var 8) (.cst (.int 0))) (.cons (.idx (.var 8) (.cst (.int 1))) .nil))) (.cons (.call 13 (.cons (.idx (.var 8) (.cst (.int 0))) (.cons (.idx (.var 8) (.cst (.int 1))) .nil))) (.cons (.call 14 (.cons (.idx (.var 8) (.cst (.int 0))) (.cons (.idx (.var 8) (.cst (.int 1))) .nil))) .nil)))))
    (.cons (.for_ (.nm 9) (.rng1 (.cst (.int 3))) (.cons (.ifs (.not (.val (.call 22 (.cons (.idx (.var 16) (.var 9)) (.cons (.call 33 (.cons (.idx (.var 15) (.var 9)) (.cons (.var 5) (.cons (.var 4) .nil)))) .nil))))) (.cons (.ret (.cst (.bl false)))
    .nil) .nil)
    .nil))
    .nil))))))))))))
    (.cons (.ret (.cst (.bl true)))
    .nil)))
def f_law : FnD := ⟨"law", ["script"], ["script", "box", "turn", "pair", "period", "bound", "many", "flags", "told", "k", "due", "members", "n", "one", "other", "dues", "ways", "condition", "m"], top 43, ["box"], false, b_law⟩
theorem r_law : resB 80 ⟨⟨f_law.N, tb⟩, defScope f_law.st, locOf (defScope f_law.st), f_law.muts, f_law.τ⟩ (defBody f_law.st) = some b_law := by kernel_rfl
theorem o_law : f_law.Ok tb := ⟨r_law, ⟨rfl, rfl, rfl, by decide +kernel, rfl, by decide +kernel, by decide +kernel⟩, fun h => nomatch h⟩
def prg : Prg := ⟨f_condition_mask :: f_atom_mask :: f_span_mask :: f_repeated :: f_set_mask :: f_mask_set :: f_least_period :: f_mask_spans :: f_least_bit :: f_span_text :: f_set_of :: f_is_in :: f_union :: f_both :: f_without :: f_least :: f_size :: f_show_set :: f_law_cell :: f_law_digits :: f_law_draw :: f_law_pick :: f_law_like :: f_law_atom :: f_law_atom_plain :: f_law_number_condition :: f_law_atom_holds :: f_law_number_holds :: f_law_bare_atom :: f_law_atoms :: f_law_common :: f_law_period :: f_law_bound :: f_law_set_of_flags :: f_law_set_text :: f_law :: [], tb, con, dic, 100000⟩
theorem prg_ok : prg.Ok := ⟨rfl, fun d h => by
  simp only [prg, List.mem_cons, List.not_mem_nil, or_false] at h
  rcases h with rfl | rfl | rfl | rfl | rfl | rfl | rfl | rfl | rfl | rfl | rfl | rfl | rfl | rfl | rfl | rfl | rfl | rfl | rfl | rfl | rfl | rfl | rfl | rfl | rfl | rfl | rfl | rfl | rfl | rfl | rfl | rfl | rfl | rfl | rfl | rfl
  · exact o_condition_mask
  · exact o_atom_mask
  · exact o_span_mask
  · exact o_repeated
  · exact o_set_mask
  · exact o_mask_set
  · exact o_least_period
  · exact o_mask_spans
  · exact o_least_bit
  · exact o_span_text
  · exact o_set_of
  · exact o_is_in
  · exact o_union
  · exact o_both
  · exact o_without
  · exact o_least
  · exact o_size
  · exact o_show_set
  · exact o_law_cell
  · exact o_law_digits
  · exact o_law_draw
  · exact o_law_pick
  · exact o_law_like
  · exact o_law_atom
  · exact o_law_atom_plain
  · exact o_law_number_condition
  · exact o_law_atom_holds
  · exact o_law_number_holds
  · exact o_law_bare_atom
  · exact o_law_atoms
  · exact o_law_common
  · exact o_law_period
  · exact o_law_bound
  · exact o_law_set_of_flags
  · exact o_law_set_text
  · exact o_law⟩
abbrev n_condition_mask : Nat := 0
abbrev n_atom_mask : Nat := 1
abbrev n_span_mask : Nat := 2
abbrev n_repeated : Nat := 3
abbrev n_set_mask : Nat := 4
abbrev n_mask_set : Nat := 5
abbrev n_least_period : Nat := 6
abbrev n_mask_spans : Nat := 7
abbrev n_least_bit : Nat := 8
abbrev n_span_text : Nat := 9
abbrev n_set_of : Nat := 10
abbrev n_is_in : Nat := 11
abbrev n_union : Nat := 12
abbrev n_both : Nat := 13
abbrev n_without : Nat := 14
abbrev n_least : Nat := 15
abbrev n_size : Nat := 16
abbrev n_show_set : Nat := 17
abbrev n_law_cell : Nat := 18
abbrev n_law_digits : Nat := 19
abbrev n_law_draw : Nat := 20
abbrev n_law_pick : Nat := 21
abbrev n_law_like : Nat := 22
abbrev n_law_atom : Nat := 23
abbrev n_law_atom_plain : Nat := 24
abbrev n_law_number_condition : Nat := 25
abbrev n_law_atom_holds : Nat := 26
abbrev n_law_number_holds : Nat := 27
abbrev n_law_bare_atom : Nat := 28
abbrev n_law_atoms : Nat := 29
abbrev n_law_common : Nat := 30
abbrev n_law_period : Nat := 31
abbrev n_law_bound : Nat := 32
abbrev n_law_set_of_flags : Nat := 33
abbrev n_law_set_text : Nat := 34
abbrev n_law : Nat := 35
abbrev cl (k f : Nat) (ds : List D) (μ : Mu) : Res D := callD prg.tab prg.con prg.dic prg.wf k f ds μ
abbrev gg (k : Nat) : G := ⟨callD prg.tab prg.con prg.dic prg.wf k, con, dic, 100000⟩
theorem c_condition_mask {k : Nat} {x0 : D} {μ : Mu} : callD prg.tab prg.con prg.dic prg.wf (k + 1) n_condition_mask [x0] μ = finO μ.length (runB (gg k) b_condition_mask (startR f_condition_mask.N.length [x0]) μ) := rfl
theorem c_atom_mask {k : Nat} {x0 : D} {μ : Mu} : callD prg.tab prg.con prg.dic prg.wf (k + 1) n_atom_mask [x0] μ = finO μ.length (runB (gg k) b_atom_mask (startR f_atom_mask.N.length [x0]) μ) := rfl
theorem c_span_mask {k : Nat} {x0 x1 : D} {μ : Mu} : callD prg.tab prg.con prg.dic prg.wf (k + 1) n_span_mask [x0, x1] μ = finO μ.length (runB (gg k) b_span_mask (startR f_span_mask.N.length [x0, x1]) μ) := rfl
theorem c_repeated {k : Nat} {x0 x1 : D} {μ : Mu} : callD prg.tab prg.con prg.dic prg.wf (k + 1) n_repeated [x0, x1] μ = finO μ.length (runB (gg k) b_repeated (startR f_repeated.N.length [x0, x1]) μ) := rfl
theorem c_set_mask {k : Nat} {x0 : D} {μ : Mu} : callD prg.tab prg.con prg.dic prg.wf (k + 1) n_set_mask [x0] μ = finO μ.length (runB (gg k) b_set_mask (startR f_set_mask.N.length [x0]) μ) := rfl
theorem c_mask_set {k : Nat} {x0 : D} {μ : Mu} : callD prg.tab prg.con prg.dic prg.wf (k + 1) n_mask_set [x0] μ = finO μ.length (runB (gg k) b_mask_set (startR f_mask_set.N.length [x0]) μ) := rfl
theorem c_least_period {k : Nat} {x0 : D} {μ : Mu} : callD prg.tab prg.con prg.dic prg.wf (k + 1) n_least_period [x0] μ = finO μ.length (runB (gg k) b_least_period (startR f_least_period.N.length [x0]) μ) := rfl
theorem c_mask_spans {k : Nat} {x0 : D} {μ : Mu} : callD prg.tab prg.con prg.dic prg.wf (k + 1) n_mask_spans [x0] μ = finO μ.length (runB (gg k) b_mask_spans (startR f_mask_spans.N.length [x0]) μ) := rfl
theorem c_least_bit {k : Nat} {x0 : D} {μ : Mu} : callD prg.tab prg.con prg.dic prg.wf (k + 1) n_least_bit [x0] μ = finO μ.length (runB (gg k) b_least_bit (startR f_least_bit.N.length [x0]) μ) := rfl
theorem c_span_text {k : Nat} {x0 x1 : D} {μ : Mu} : callD prg.tab prg.con prg.dic prg.wf (k + 1) n_span_text [x0, x1] μ = finO μ.length (runB (gg k) b_span_text (startR f_span_text.N.length [x0, x1]) μ) := rfl
theorem c_set_of {k : Nat} {x0 : D} {μ : Mu} : callD prg.tab prg.con prg.dic prg.wf (k + 1) n_set_of [x0] μ = finO μ.length (runB (gg k) b_set_of (startR f_set_of.N.length [x0]) μ) := rfl
theorem c_is_in {k : Nat} {x0 x1 : D} {μ : Mu} : callD prg.tab prg.con prg.dic prg.wf (k + 1) n_is_in [x0, x1] μ = finO μ.length (runB (gg k) b_is_in (startR f_is_in.N.length [x0, x1]) μ) := rfl
theorem c_union {k : Nat} {x0 x1 : D} {μ : Mu} : callD prg.tab prg.con prg.dic prg.wf (k + 1) n_union [x0, x1] μ = finO μ.length (runB (gg k) b_union (startR f_union.N.length [x0, x1]) μ) := rfl
theorem c_both {k : Nat} {x0 x1 : D} {μ : Mu} : callD prg.tab prg.con prg.dic prg.wf (k + 1) n_both [x0, x1] μ = finO μ.length (runB (gg k) b_both (startR f_both.N.length [x0, x1]) μ) := rfl
theorem c_without {k : Nat} {x0 x1 : D} {μ : Mu} : callD prg.tab prg.con prg.dic prg.wf (k + 1) n_without [x0, x1] μ = finO μ.length (runB (gg k) b_without (startR f_without.N.length [x0, x1]) μ) := rfl
theorem c_least {k : Nat} {x0 x1 : D} {μ : Mu} : callD prg.tab prg.con prg.dic prg.wf (k + 1) n_least [x0, x1] μ = finO μ.length (runB (gg k) b_least (startR f_least.N.length [x0, x1]) μ) := rfl
theorem c_size {k : Nat} {x0 : D} {μ : Mu} : callD prg.tab prg.con prg.dic prg.wf (k + 1) n_size [x0] μ = finO μ.length (runB (gg k) b_size (startR f_size.N.length [x0]) μ) := rfl
theorem c_show_set {k : Nat} {x0 : D} {μ : Mu} : callD prg.tab prg.con prg.dic prg.wf (k + 1) n_show_set [x0] μ = finO μ.length (runB (gg k) b_show_set (startR f_show_set.N.length [x0]) μ) := rfl
theorem c_law_cell {k : Nat} {x0 x1 : D} {μ : Mu} : callD prg.tab prg.con prg.dic prg.wf (k + 1) n_law_cell [x0, x1] μ = finO μ.length (runB (gg k) b_law_cell (startR f_law_cell.N.length [x0, x1]) μ) := rfl
theorem c_law_digits {k : Nat} {x0 x1 x2 : D} {μ : Mu} : callD prg.tab prg.con prg.dic prg.wf (k + 1) n_law_digits [x0, x1, x2] μ = finO μ.length (runB (gg k) b_law_digits (startR f_law_digits.N.length [x0, x1, x2]) μ) := rfl
theorem c_law_draw {k : Nat} {x0 x1 : D} {μ : Mu} : callD prg.tab prg.con prg.dic prg.wf (k + 1) n_law_draw [x0, x1] μ = finO μ.length (runB (gg k) b_law_draw (startR f_law_draw.N.length [x0, x1]) μ) := rfl
theorem c_law_pick {k : Nat} {x0 x1 : D} {μ : Mu} : callD prg.tab prg.con prg.dic prg.wf (k + 1) n_law_pick [x0, x1] μ = finO μ.length (runB (gg k) b_law_pick (startR f_law_pick.N.length [x0, x1]) μ) := rfl
theorem c_law_like {k : Nat} {x0 x1 : D} {μ : Mu} : callD prg.tab prg.con prg.dic prg.wf (k + 1) n_law_like [x0, x1] μ = finO μ.length (runB (gg k) b_law_like (startR f_law_like.N.length [x0, x1]) μ) := rfl
theorem c_law_atom {k : Nat} {x0 x1 : D} {μ : Mu} : callD prg.tab prg.con prg.dic prg.wf (k + 1) n_law_atom [x0, x1] μ = finO μ.length (runB (gg k) b_law_atom (startR f_law_atom.N.length [x0, x1]) μ) := rfl
theorem c_law_atom_plain {k : Nat} {x0 x1 : D} {μ : Mu} : callD prg.tab prg.con prg.dic prg.wf (k + 1) n_law_atom_plain [x0, x1] μ = finO μ.length (runB (gg k) b_law_atom_plain (startR f_law_atom_plain.N.length [x0, x1]) μ) := rfl
theorem c_law_number_condition {k : Nat} {x0 x1 : D} {μ : Mu} : callD prg.tab prg.con prg.dic prg.wf (k + 1) n_law_number_condition [x0, x1] μ = finO μ.length (runB (gg k) b_law_number_condition (startR f_law_number_condition.N.length [x0, x1]) μ) := rfl
theorem c_law_atom_holds {k : Nat} {x0 x1 : D} {μ : Mu} : callD prg.tab prg.con prg.dic prg.wf (k + 1) n_law_atom_holds [x0, x1] μ = finO μ.length (runB (gg k) b_law_atom_holds (startR f_law_atom_holds.N.length [x0, x1]) μ) := rfl
theorem c_law_number_holds {k : Nat} {x0 x1 : D} {μ : Mu} : callD prg.tab prg.con prg.dic prg.wf (k + 1) n_law_number_holds [x0, x1] μ = finO μ.length (runB (gg k) b_law_number_holds (startR f_law_number_holds.N.length [x0, x1]) μ) := rfl
theorem c_law_bare_atom {k : Nat} {x0 : D} {μ : Mu} : callD prg.tab prg.con prg.dic prg.wf (k + 1) n_law_bare_atom [x0] μ = finO μ.length (runB (gg k) b_law_bare_atom (startR f_law_bare_atom.N.length [x0]) μ) := rfl
theorem c_law_atoms {k : Nat} {x0 : D} {μ : Mu} : callD prg.tab prg.con prg.dic prg.wf (k + 1) n_law_atoms [x0] μ = finO μ.length (runB (gg k) b_law_atoms (startR f_law_atoms.N.length [x0]) μ) := rfl
theorem c_law_common {k : Nat} {x0 x1 : D} {μ : Mu} : callD prg.tab prg.con prg.dic prg.wf (k + 1) n_law_common [x0, x1] μ = finO μ.length (runB (gg k) b_law_common (startR f_law_common.N.length [x0, x1]) μ) := rfl
theorem c_law_period {k : Nat} {x0 : D} {μ : Mu} : callD prg.tab prg.con prg.dic prg.wf (k + 1) n_law_period [x0] μ = finO μ.length (runB (gg k) b_law_period (startR f_law_period.N.length [x0]) μ) := rfl
theorem c_law_bound {k : Nat} {x0 : D} {μ : Mu} : callD prg.tab prg.con prg.dic prg.wf (k + 1) n_law_bound [x0] μ = finO μ.length (runB (gg k) b_law_bound (startR f_law_bound.N.length [x0]) μ) := rfl
theorem c_law_set_of_flags {k : Nat} {x0 x1 x2 : D} {μ : Mu} : callD prg.tab prg.con prg.dic prg.wf (k + 1) n_law_set_of_flags [x0, x1, x2] μ = finO μ.length (runB (gg k) b_law_set_of_flags (startR f_law_set_of_flags.N.length [x0, x1, x2]) μ) := rfl
theorem c_law_set_text {k : Nat} {x0 : D} {μ : Mu} : callD prg.tab prg.con prg.dic prg.wf (k + 1) n_law_set_text [x0] μ = finO μ.length (runB (gg k) b_law_set_text (startR f_law_set_text.N.length [x0]) μ) := rfl
theorem c_law {k : Nat} {x0 : D} {μ : Mu} : callD prg.tab prg.con prg.dic prg.wf (k + 1) n_law [x0] μ = finO μ.length (runB (gg k) b_law (startR f_law.N.length [x0]) μ) := rfl
theorem t_0 : ("not" : Str) = tx [110, 111, 116] := by decide +kernel
theorem t_1 : ("rest" : Str) = tx [114, 101, 115, 116] := by decide +kernel
theorem t_2 : ("set" : Str) = tx [115, 101, 116] := by decide +kernel
theorem t_3 : (".." : Str) = tx [46, 46] := by decide +kernel
theorem t_4 : ("," : Str) = tx [44] := by decide +kernel
theorem t_5 : (" " : Str) = tx [32] := by decide +kernel
theorem t_6 : ("from " : Str) = tx [102, 114, 111, 109, 32] := by decide +kernel
theorem t_7 : (" by " : Str) = tx [32, 98, 121, 32] := by decide +kernel
theorem t_8 : (": " : Str) = tx [58, 32] := by decide +kernel
theorem t_9 : ("; " : Str) = tx [59, 32] := by decide +kernel
theorem t_10 : ("none" : Str) = tx [110, 111, 110, 101] := by decide +kernel
theorem t_11 : ("" : Str) = tx [] := by decide +kernel
theorem t_12 : ("in" : Str) = tx [105, 110] := by decide +kernel
theorem bn_condition_mask : ∀ (kV doc pm : Value) (an : Option Addr) (cdv ct : Value) (us : List Value), us.length = (["condition"] : List Str).length → bindArgs (PySem.W.fnOf "condition_mask" "condition_mask" (defArgs (top 6)) (defBody (top 6)) (defScope (top 6)) .none kV doc pm an cdv ct) ⟨us, []⟩ = pure ((["condition"] : List Str).zip us) := fun _ _ _ _ _ _ us hl => match us, hl with | [_], _ => rfl
theorem bn_atom_mask : ∀ (kV doc pm : Value) (an : Option Addr) (cdv ct : Value) (us : List Value), us.length = (["atom"] : List Str).length → bindArgs (PySem.W.fnOf "_atom_mask" "_atom_mask" (defArgs (top 7)) (defBody (top 7)) (defScope (top 7)) .none kV doc pm an cdv ct) ⟨us, []⟩ = pure ((["atom"] : List Str).zip us) := fun _ _ _ _ _ _ us hl => match us, hl with | [_], _ => rfl
theorem bn_span_mask : ∀ (kV doc pm : Value) (an : Option Addr) (cdv ct : Value) (us : List Value), us.length = (["first", "last"] : List Str).length → bindArgs (PySem.W.fnOf "_span_mask" "_span_mask" (defArgs (top 8)) (defBody (top 8)) (defScope (top 8)) .none kV doc pm an cdv ct) ⟨us, []⟩ = pure ((["first", "last"] : List Str).zip us) := fun _ _ _ _ _ _ us hl => match us, hl with | [_, _], _ => rfl
theorem bn_repeated : ∀ (kV doc pm : Value) (an : Option Addr) (cdv ct : Value) (us : List Value), us.length = (["block", "period"] : List Str).length → bindArgs (PySem.W.fnOf "_repeated" "_repeated" (defArgs (top 9)) (defBody (top 9)) (defScope (top 9)) .none kV doc pm an cdv ct) ⟨us, []⟩ = pure ((["block", "period"] : List Str).zip us) := fun _ _ _ _ _ _ us hl => match us, hl with | [_, _], _ => rfl
theorem bn_set_mask : ∀ (kV doc pm : Value) (an : Option Addr) (cdv ct : Value) (us : List Value), us.length = (["one"] : List Str).length → bindArgs (PySem.W.fnOf "set_mask" "set_mask" (defArgs (top 10)) (defBody (top 10)) (defScope (top 10)) .none kV doc pm an cdv ct) ⟨us, []⟩ = pure ((["one"] : List Str).zip us) := fun _ _ _ _ _ _ us hl => match us, hl with | [_], _ => rfl
theorem bn_mask_set : ∀ (kV doc pm : Value) (an : Option Addr) (cdv ct : Value) (us : List Value), us.length = (["mask"] : List Str).length → bindArgs (PySem.W.fnOf "mask_set" "mask_set" (defArgs (top 11)) (defBody (top 11)) (defScope (top 11)) .none kV doc pm an cdv ct) ⟨us, []⟩ = pure ((["mask"] : List Str).zip us) := fun _ _ _ _ _ _ us hl => match us, hl with | [_], _ => rfl
theorem bn_least_period : ∀ (kV doc pm : Value) (an : Option Addr) (cdv ct : Value) (us : List Value), us.length = (["tail"] : List Str).length → bindArgs (PySem.W.fnOf "_least_period" "_least_period" (defArgs (top 12)) (defBody (top 12)) (defScope (top 12)) .none kV doc pm an cdv ct) ⟨us, []⟩ = pure ((["tail"] : List Str).zip us) := fun _ _ _ _ _ _ us hl => match us, hl with | [_], _ => rfl
theorem bn_mask_spans : ∀ (kV doc pm : Value) (an : Option Addr) (cdv ct : Value) (us : List Value), us.length = (["mask"] : List Str).length → bindArgs (PySem.W.fnOf "_mask_spans" "_mask_spans" (defArgs (top 13)) (defBody (top 13)) (defScope (top 13)) .none kV doc pm an cdv ct) ⟨us, []⟩ = pure ((["mask"] : List Str).zip us) := fun _ _ _ _ _ _ us hl => match us, hl with | [_], _ => rfl
theorem bn_least_bit : ∀ (kV doc pm : Value) (an : Option Addr) (cdv ct : Value) (us : List Value), us.length = (["mask"] : List Str).length → bindArgs (PySem.W.fnOf "least_bit" "least_bit" (defArgs (top 14)) (defBody (top 14)) (defScope (top 14)) .none kV doc pm an cdv ct) ⟨us, []⟩ = pure ((["mask"] : List Str).zip us) := fun _ _ _ _ _ _ us hl => match us, hl with | [_], _ => rfl
theorem bn_span_text : ∀ (kV doc pm : Value) (an : Option Addr) (cdv ct : Value) (us : List Value), us.length = (["low", "high"] : List Str).length → bindArgs (PySem.W.fnOf "_span_text" "_span_text" (defArgs (top 16)) (defBody (top 16)) (defScope (top 16)) .none kV doc pm an cdv ct) ⟨us, []⟩ = pure ((["low", "high"] : List Str).zip us) := fun _ _ _ _ _ _ us hl => match us, hl with | [_, _], _ => rfl
theorem bn_set_of : ∀ (kV doc pm : Value) (an : Option Addr) (cdv ct : Value) (us : List Value), us.length = (["condition"] : List Str).length → bindArgs (PySem.W.fnOf "set_of" "set_of" (defArgs (top 17)) (defBody (top 17)) (defScope (top 17)) .none kV doc pm an cdv ct) ⟨us, []⟩ = pure ((["condition"] : List Str).zip us) := fun _ _ _ _ _ _ us hl => match us, hl with | [_], _ => rfl
theorem bn_is_in : ∀ (kV doc pm : Value) (an : Option Addr) (cdv ct : Value) (us : List Value), us.length = (["one", "n"] : List Str).length → bindArgs (PySem.W.fnOf "is_in" "is_in" (defArgs (top 18)) (defBody (top 18)) (defScope (top 18)) .none kV doc pm an cdv ct) ⟨us, []⟩ = pure ((["one", "n"] : List Str).zip us) := fun _ _ _ _ _ _ us hl => match us, hl with | [_, _], _ => rfl
theorem bn_union : ∀ (kV doc pm : Value) (an : Option Addr) (cdv ct : Value) (us : List Value), us.length = (["one", "other"] : List Str).length → bindArgs (PySem.W.fnOf "union" "union" (defArgs (top 19)) (defBody (top 19)) (defScope (top 19)) .none kV doc pm an cdv ct) ⟨us, []⟩ = pure ((["one", "other"] : List Str).zip us) := fun _ _ _ _ _ _ us hl => match us, hl with | [_, _], _ => rfl
theorem bn_both : ∀ (kV doc pm : Value) (an : Option Addr) (cdv ct : Value) (us : List Value), us.length = (["one", "other"] : List Str).length → bindArgs (PySem.W.fnOf "both" "both" (defArgs (top 20)) (defBody (top 20)) (defScope (top 20)) .none kV doc pm an cdv ct) ⟨us, []⟩ = pure ((["one", "other"] : List Str).zip us) := fun _ _ _ _ _ _ us hl => match us, hl with | [_, _], _ => rfl
theorem bn_without : ∀ (kV doc pm : Value) (an : Option Addr) (cdv ct : Value) (us : List Value), us.length = (["one", "other"] : List Str).length → bindArgs (PySem.W.fnOf "without" "without" (defArgs (top 21)) (defBody (top 21)) (defScope (top 21)) .none kV doc pm an cdv ct) ⟨us, []⟩ = pure ((["one", "other"] : List Str).zip us) := fun _ _ _ _ _ _ us hl => match us, hl with | [_, _], _ => rfl
theorem bn_least : ∀ (kV doc pm : Value) (an : Option Addr) (cdv ct : Value) (us : List Value), us.length = (["one", "n"] : List Str).length → bindArgs (PySem.W.fnOf "least" "least" (defArgs (top 22)) (defBody (top 22)) (defScope (top 22)) .none kV doc pm an cdv ct) ⟨us, []⟩ = pure ((["one", "n"] : List Str).zip us) := fun _ _ _ _ _ _ us hl => match us, hl with | [_, _], _ => rfl
theorem bn_size : ∀ (kV doc pm : Value) (an : Option Addr) (cdv ct : Value) (us : List Value), us.length = (["one"] : List Str).length → bindArgs (PySem.W.fnOf "size" "size" (defArgs (top 23)) (defBody (top 23)) (defScope (top 23)) .none kV doc pm an cdv ct) ⟨us, []⟩ = pure ((["one"] : List Str).zip us) := fun _ _ _ _ _ _ us hl => match us, hl with | [_], _ => rfl
theorem bn_show_set : ∀ (kV doc pm : Value) (an : Option Addr) (cdv ct : Value) (us : List Value), us.length = (["one"] : List Str).length → bindArgs (PySem.W.fnOf "show_set" "show_set" (defArgs (top 24)) (defBody (top 24)) (defScope (top 24)) .none kV doc pm an cdv ct) ⟨us, []⟩ = pure ((["one"] : List Str).zip us) := fun _ _ _ _ _ _ us hl => match us, hl with | [_], _ => rfl
theorem bn_law_cell : ∀ (kV doc pm : Value) (an : Option Addr) (cdv ct : Value) (us : List Value), us.length = (["script", "k"] : List Str).length → bindArgs (PySem.W.fnOf "_law_cell" "_law_cell" (defArgs (top 26)) (defBody (top 26)) (defScope (top 26)) .none kV doc pm an cdv ct) ⟨us, []⟩ = pure ((["script", "k"] : List Str).zip us) := fun _ _ _ _ _ _ us hl => match us, hl with | [_, _], _ => rfl
theorem bn_law_digits : ∀ (kV doc pm : Value) (an : Option Addr) (cdv ct : Value) (us : List Value), us.length = (["script", "first", "last"] : List Str).length → bindArgs (PySem.W.fnOf "_law_digits" "_law_digits" (defArgs (top 27)) (defBody (top 27)) (defScope (top 27)) .none kV doc pm an cdv ct) ⟨us, []⟩ = pure ((["script", "first", "last"] : List Str).zip us) := fun _ _ _ _ _ _ us hl => match us, hl with | [_, _, _], _ => rfl
theorem bn_law_draw : ∀ (kV doc pm : Value) (an : Option Addr) (cdv ct : Value) (us : List Value), us.length = (["box", "many"] : List Str).length → bindArgs (PySem.W.fnOf "_law_draw" "_law_draw" (defArgs (top 28)) (defBody (top 28)) (defScope (top 28)) .none kV doc pm an cdv ct) ⟨us, []⟩ = pure ((["box", "many"] : List Str).zip us) := fun _ _ _ _ _ _ us hl => match us, hl with | [_, _], _ => rfl
theorem bn_law_pick : ∀ (kV doc pm : Value) (an : Option Addr) (cdv ct : Value) (us : List Value), us.length = (["box", "things"] : List Str).length → bindArgs (PySem.W.fnOf "_law_pick" "_law_pick" (defArgs (top 29)) (defBody (top 29)) (defScope (top 29)) .none kV doc pm an cdv ct) ⟨us, []⟩ = pure ((["box", "things"] : List Str).zip us) := fun _ _ _ _ _ _ us hl => match us, hl with | [_, _], _ => rfl
theorem bn_law_like : ∀ (kV doc pm : Value) (an : Option Addr) (cdv ct : Value) (us : List Value), us.length = (["told", "due"] : List Str).length → bindArgs (PySem.W.fnOf "_law_like" "_law_like" (defArgs (top 30)) (defBody (top 30)) (defScope (top 30)) .none kV doc pm an cdv ct) ⟨us, []⟩ = pure ((["told", "due"] : List Str).zip us) := fun _ _ _ _ _ _ us hl => match us, hl with | [_, _], _ => rfl
theorem bn_law_atom : ∀ (kV doc pm : Value) (an : Option Addr) (cdv ct : Value) (us : List Value), us.length = (["box", "great"] : List Str).length → bindArgs (PySem.W.fnOf "_law_atom" "_law_atom" (defArgs (top 31)) (defBody (top 31)) (defScope (top 31)) .none kV doc pm an cdv ct) ⟨us, []⟩ = pure ((["box", "great"] : List Str).zip us) := fun _ _ _ _ _ _ us hl => match us, hl with | [_, _], _ => rfl
theorem bn_law_atom_plain : ∀ (kV doc pm : Value) (an : Option Addr) (cdv ct : Value) (us : List Value), us.length = (["box", "great"] : List Str).length → bindArgs (PySem.W.fnOf "_law_atom_plain" "_law_atom_plain" (defArgs (top 32)) (defBody (top 32)) (defScope (top 32)) .none kV doc pm an cdv ct) ⟨us, []⟩ = pure ((["box", "great"] : List Str).zip us) := fun _ _ _ _ _ _ us hl => match us, hl with | [_, _], _ => rfl
theorem bn_law_number_condition : ∀ (kV doc pm : Value) (an : Option Addr) (cdv ct : Value) (us : List Value), us.length = (["box", "great"] : List Str).length → bindArgs (PySem.W.fnOf "_law_number_condition" "_law_number_condition" (defArgs (top 33)) (defBody (top 33)) (defScope (top 33)) .none kV doc pm an cdv ct) ⟨us, []⟩ = pure ((["box", "great"] : List Str).zip us) := fun _ _ _ _ _ _ us hl => match us, hl with | [_, _], _ => rfl
theorem bn_law_atom_holds : ∀ (kV doc pm : Value) (an : Option Addr) (cdv ct : Value) (us : List Value), us.length = (["atom", "n"] : List Str).length → bindArgs (PySem.W.fnOf "_law_atom_holds" "_law_atom_holds" (defArgs (top 34)) (defBody (top 34)) (defScope (top 34)) .none kV doc pm an cdv ct) ⟨us, []⟩ = pure ((["atom", "n"] : List Str).zip us) := fun _ _ _ _ _ _ us hl => match us, hl with | [_, _], _ => rfl
theorem bn_law_number_holds : ∀ (kV doc pm : Value) (an : Option Addr) (cdv ct : Value) (us : List Value), us.length = (["condition", "n"] : List Str).length → bindArgs (PySem.W.fnOf "_law_number_holds" "_law_number_holds" (defArgs (top 35)) (defBody (top 35)) (defScope (top 35)) .none kV doc pm an cdv ct) ⟨us, []⟩ = pure ((["condition", "n"] : List Str).zip us) := fun _ _ _ _ _ _ us hl => match us, hl with | [_, _], _ => rfl
theorem bn_law_bare_atom : ∀ (kV doc pm : Value) (an : Option Addr) (cdv ct : Value) (us : List Value), us.length = (["atom"] : List Str).length → bindArgs (PySem.W.fnOf "_law_bare_atom" "_law_bare_atom" (defArgs (top 36)) (defBody (top 36)) (defScope (top 36)) .none kV doc pm an cdv ct) ⟨us, []⟩ = pure ((["atom"] : List Str).zip us) := fun _ _ _ _ _ _ us hl => match us, hl with | [_], _ => rfl
theorem bn_law_atoms : ∀ (kV doc pm : Value) (an : Option Addr) (cdv ct : Value) (us : List Value), us.length = (["conditions"] : List Str).length → bindArgs (PySem.W.fnOf "_law_atoms" "_law_atoms" (defArgs (top 37)) (defBody (top 37)) (defScope (top 37)) .none kV doc pm an cdv ct) ⟨us, []⟩ = pure ((["conditions"] : List Str).zip us) := fun _ _ _ _ _ _ us hl => match us, hl with | [_], _ => rfl
theorem bn_law_common : ∀ (kV doc pm : Value) (an : Option Addr) (cdv ct : Value) (us : List Value), us.length = (["one", "other"] : List Str).length → bindArgs (PySem.W.fnOf "_law_common" "_law_common" (defArgs (top 38)) (defBody (top 38)) (defScope (top 38)) .none kV doc pm an cdv ct) ⟨us, []⟩ = pure ((["one", "other"] : List Str).zip us) := fun _ _ _ _ _ _ us hl => match us, hl with | [_, _], _ => rfl
theorem bn_law_period : ∀ (kV doc pm : Value) (an : Option Addr) (cdv ct : Value) (us : List Value), us.length = (["conditions"] : List Str).length → bindArgs (PySem.W.fnOf "_law_period" "_law_period" (defArgs (top 39)) (defBody (top 39)) (defScope (top 39)) .none kV doc pm an cdv ct) ⟨us, []⟩ = pure ((["conditions"] : List Str).zip us) := fun _ _ _ _ _ _ us hl => match us, hl with | [_], _ => rfl
theorem bn_law_bound : ∀ (kV doc pm : Value) (an : Option Addr) (cdv ct : Value) (us : List Value), us.length = (["conditions"] : List Str).length → bindArgs (PySem.W.fnOf "_law_bound" "_law_bound" (defArgs (top 40)) (defBody (top 40)) (defScope (top 40)) .none kV doc pm an cdv ct) ⟨us, []⟩ = pure ((["conditions"] : List Str).zip us) := fun _ _ _ _ _ _ us hl => match us, hl with | [_], _ => rfl
theorem bn_law_set_of_flags : ∀ (kV doc pm : Value) (an : Option Addr) (cdv ct : Value) (us : List Value), us.length = (["flags", "bound", "period"] : List Str).length → bindArgs (PySem.W.fnOf "_law_set_of_flags" "_law_set_of_flags" (defArgs (top 41)) (defBody (top 41)) (defScope (top 41)) .none kV doc pm an cdv ct) ⟨us, []⟩ = pure ((["flags", "bound", "period"] : List Str).zip us) := fun _ _ _ _ _ _ us hl => match us, hl with | [_, _, _], _ => rfl
theorem bn_law_set_text : ∀ (kV doc pm : Value) (an : Option Addr) (cdv ct : Value) (us : List Value), us.length = (["one"] : List Str).length → bindArgs (PySem.W.fnOf "_law_set_text" "_law_set_text" (defArgs (top 42)) (defBody (top 42)) (defScope (top 42)) .none kV doc pm an cdv ct) ⟨us, []⟩ = pure ((["one"] : List Str).zip us) := fun _ _ _ _ _ _ us hl => match us, hl with | [_], _ => rfl
theorem bn_law : ∀ (kV doc pm : Value) (an : Option Addr) (cdv ct : Value) (us : List Value), us.length = (["script"] : List Str).length → bindArgs (PySem.W.fnOf "law" "law" (defArgs (top 43)) (defBody (top 43)) (defScope (top 43)) .none kV doc pm an cdv ct) ⟨us, []⟩ = pure ((["script"] : List Str).zip us) := fun _ _ _ _ _ _ us hl => match us, hl with | [_], _ => rfl
end PyI.K01
/-! Q1: the program's masks. -/
namespace PyI.K01
open PySem L2 PyProof.Rows
def ALLn : Nat := 2 ^ 300 - 1
theorem con3 {k : Nat} : (gg k).con 3 = some (.int (ALLn : Nat)) := congrArg (fun i => some (D.int i)) (by decide +kernel : (2037035976334486086268445688409378161051468393665936250636140449354381299763336706183397375 : Int) = ((ALLn : Nat) : Int))
theorem con0 {k : Nat} : (gg k).con 0 = some (.int 200) := rfl
theorem con1 {k : Nat} : (gg k).con 1 = some (.int 100) := rfl
theorem con2 {k : Nat} : (gg k).con 2 = some (.int 300) := rfl
theorem con4 {k : Nat} : (gg k).con 4 = some (.tup [.int 1, .int 2, .int 4, .int 5, .int 10, .int 20, .int 25, .int 50, .int 100]) := rfl
theorem all_mk : ALLn = mk (fun _ => true) 300 := by decide +kernel
theorem shl1 {n : Nat} {μ : Mu} (h : n ≤ 1000) : binD .shl (.int 1) (.int (n : Int)) μ = .ok (.int ((2 ^ n : Nat) : Int)) μ := by
  have h1 : (0 ≤ (n : Int) ∧ (n : Int) ≤ 1000000 ∧ (1 : Int).natAbs < 2 ^ 64) ∨ (0 ≤ (n : Int) ∧ (Builtin.Int.intBits 1 : Int) + (n : Int) ≤ 2 ^ 27) := .inl ⟨Int.natCast_nonneg n, by omega, by decide⟩
  show needs _ _ = _
  rw [needs_pos h1, Int.toNat_natCast, Int.one_mul]
  simp
theorem shr_ok {x n : Nat} {μ : Mu} : binD .shr (.int (x : Int)) (.int (n : Int)) μ = .ok (.int ((x / 2 ^ n : Nat) : Int)) μ := by
  show needs _ _ = _
  rw [needs_pos (Int.natCast_nonneg n), Int.toNat_natCast]
  simp
theorem shl_ok {x n : Nat} {μ : Mu} (h : n ≤ 1000) (hx : x < 2 ^ 300) : binD .shl (.int (x : Int)) (.int (n : Int)) μ = .ok (.int ((x * 2 ^ n : Nat) : Int)) μ := by
  have hb : Builtin.Int.intBits (x : Int) ≤ 300 := intBits_le_iff.mpr (by rw [Int.natAbs_natCast]; exact hx)
  have h1 : (0 ≤ (n : Int) ∧ (n : Int) ≤ 1000000 ∧ ((x : Nat) : Int).natAbs < 2 ^ 64) ∨ (0 ≤ (n : Int) ∧ (Builtin.Int.intBits (x : Int) : Int) + (n : Int) ≤ 2 ^ 27) := .inr ⟨Int.natCast_nonneg n, by
    have : (2 : Int) ^ 27 = 134217728 := by decide
    rw [this]; omega⟩
  show needs _ _ = _
  rw [needs_pos h1, Int.toNat_natCast]
  simp
/-! ### expressions, step by step -/
section
variable {Γ : G} {ρ : Rho} {μ μ1 μ2 μ3 : Mu} {a b c e : E} {x y z d : D}
theorem ev_var {i : Nat} (h : ρ[i]? = some (some d)) : evalE Γ (.var i) ρ μ = .ok d μ := by
  rw [evalE, h]
theorem ev_cst : evalE Γ (.cst d) ρ μ = .ok d μ := by rw [evalE]
theorem ev_glob {g : Nat} (h : Γ.con g = some d) : evalE Γ (.glob g) ρ μ = .ok d μ := by rw [evalE, h]
theorem ev_bin {o : Bop} {r : Res D} (ha : evalE Γ a ρ μ = .ok x μ1) (hb : evalE Γ b ρ μ1 = .ok y μ2) (h : binD o x y μ2 = r) : evalE Γ (.bin o a b) ρ μ = r := by
  rw [evalE, ha, bind_ok, hb, bind_ok, h]
theorem ev_idx {r : Res D} (ha : evalE Γ a ρ μ = .ok x μ1) (hb : evalE Γ b ρ μ1 = .ok y μ2) (h : idxD x y μ2 = r) : evalE Γ (.idx a b) ρ μ = r := by
  rw [evalE, ha, bind_ok, hb, bind_ok, h]
theorem ev_call1 {f : Nat} {r : Res D} (ha : evalE Γ a ρ μ = .ok x μ1) (h : Γ.call f [x] μ1 = r) : evalE Γ (.call f (.cons a .nil)) ρ μ = r := by
  rw [evalE, evalEs, ha, bind_ok, evalEs, bind_ok, bind_ok, h]
theorem ev_call2 {f : Nat} {r : Res D} (ha : evalE Γ a ρ μ = .ok x μ1) (hb : evalE Γ b ρ μ1 = .ok y μ2) (h : Γ.call f [x, y] μ2 = r) : evalE Γ (.call f (.cons a (.cons b .nil))) ρ μ = r := by
  rw [evalE, evalEs, ha, bind_ok, evalEs, hb, bind_ok, evalEs, bind_ok, bind_ok, bind_ok, h]
theorem ev_call3 {f : Nat} {r : Res D} (ha : evalE Γ a ρ μ = .ok x μ1) (hb : evalE Γ b ρ μ1 = .ok y μ2) (hc : evalE Γ c ρ μ2 = .ok z μ3) (h : Γ.call f [x, y, z] μ3 = r) : evalE Γ (.call f (.cons a (.cons b (.cons c .nil)))) ρ μ = r := by
  rw [evalE, evalEs, ha, bind_ok, evalEs, hb, bind_ok, evalEs, hc, bind_ok, evalEs, bind_ok, bind_ok, bind_ok, bind_ok, h]
theorem ev_bif1 {f : Bif} {r : Res D} (ha : evalE Γ a ρ μ = .ok x μ1) (h : bifD f [x] μ1 = r) : evalE Γ (.bif f (.cons a .nil)) ρ μ = r := by
  rw [evalE, evalEs, ha, bind_ok, evalEs, bind_ok, bind_ok, h]
theorem ev_bif2 {f : Bif} {r : Res D} (ha : evalE Γ a ρ μ = .ok x μ1) (hb : evalE Γ b ρ μ1 = .ok y μ2) (h : bifD f [x, y] μ2 = r) : evalE Γ (.bif f (.cons a (.cons b .nil))) ρ μ = r := by
  rw [evalE, evalEs, ha, bind_ok, evalEs, hb, bind_ok, evalEs, bind_ok, bind_ok, bind_ok, h]
theorem ev_cmp {o : Cop} {k : Bool} (ha : evalE Γ a ρ μ = .ok x μ1) (hb : evalE Γ b ρ μ1 = .ok y μ2) (h : cmpD o x y μ2 = .ok k μ2) : evalE Γ (.cmp o a b) ρ μ = .ok (.bl k) μ2 := by
  rw [evalE, ha, bind_ok, hb, bind_ok, h, bind_ok]
theorem ev_bits {i : Int} (ha : evalE Γ a ρ μ = .ok (.int i) μ1) : evalE Γ (.bits a) ρ μ = .ok (.int (Builtin.Int.intBits i : Nat)) μ1 := by
  rw [evalE, ha, bind_ok]
theorem ev_tup2 (ha : evalE Γ a ρ μ = .ok x μ1) (hb : evalE Γ b ρ μ1 = .ok y μ2) : evalE Γ (.tup (.cons a (.cons b .nil))) ρ μ = .ok (.tup [x, y]) μ2 := by
  rw [evalE, evalEs, ha, bind_ok, evalEs, hb, bind_ok, evalEs, bind_ok, bind_ok, bind_ok, needs_pos (by simp)]
theorem ev_tup4 {μ4 : Mu} {x4 : D} {d4 : E} (ha : evalE Γ a ρ μ = .ok x μ1) (hb : evalE Γ b ρ μ1 = .ok y μ2) (hc : evalE Γ c ρ μ2 = .ok z μ3) (hd : evalE Γ d4 ρ μ3 = .ok x4 μ4) : evalE Γ (.tup (.cons a (.cons b (.cons c (.cons d4 .nil))))) ρ μ = .ok (.tup [x, y, z, x4]) μ4 := by
  rw [evalE, evalEs, ha, bind_ok, evalEs, hb, bind_ok, evalEs, hc, bind_ok, evalEs, hd, bind_ok, evalEs, bind_ok, bind_ok, bind_ok, bind_ok, bind_ok, needs_pos (by simp)]
theorem st_set {i : Nat} (h : evalE Γ e ρ μ = .ok d μ1) : runS Γ (.set (.nm i) e) ρ μ = .nx (ρ.set i (some d)) μ1 := by
  rw [runS, h, then_ok, assignT]
theorem st_ret (h : evalE Γ e ρ μ = .ok d μ1) : runS Γ (.ret e) ρ μ = .rt d μ1 := by
  rw [runS, h, then_ok]
theorem tv_bl {k : Bool} (h : evalE Γ e ρ μ = .ok (.bl k) μ1) : evalT Γ (.val e) ρ μ = .ok k μ1 := by
  rw [evalT, h, bind_ok, truD]
theorem tv_not {t : T} {k : Bool} (h : evalT Γ t ρ μ = .ok k μ1) : evalT Γ (.not t) ρ μ = .ok (!k) μ1 := by
  rw [evalT, h, bind_ok]
end
/-- xs.append(e) -/
theorem st_append {Γ : G} {ρ : Rho} {μ μ1 μ2 μ3 : Mu} {o a : E} {d : D} {n : Nat} {l : List D} (ho : evalE Γ o ρ μ = .ok (.ref n) μ1) (ha : evalE Γ a ρ μ1 = .ok d μ2) (hl : μ2[n]? = some (.lst l)) (hz : l.length < 16777216) (he : μ2.set n (.lst (l ++ [d])) = μ3) (hl1 : μ1[n]? = some (.lst l) := by assumption) : runS Γ (.expr (.met .append o (.cons a .nil))) ρ μ = .nx ρ μ3 := by
  rw [runS, evalE, ho, bind_ok]
  have ht : tyD .append (.ref n) μ1 = true := by unfold tyD; simp only [hl1]
  rw [needs_pos ht, evalEs, ha, bind_ok, evalEs, bind_ok, bind_ok]
  have : metD .append (.ref n) [d] μ2 = .ok .non (μ2.set n (.lst (l ++ [d]))) := by
    unfold metD
    simp only [hl]
    exact needs_pos hz
  rw [this, then_ok, he]
theorem ev_ite_true {Γ : G} {ρ : Rho} {μ μ1 : Mu} {t : T} {a b : E} {r : Res D} (h : evalT Γ t ρ μ = .ok true μ1) (ha : evalE Γ a ρ μ1 = r) : evalE Γ (.ite t a b) ρ μ = r := by
  rw [evalE, h, bind_ok, if_pos rfl, ha]
theorem ev_ite_false {Γ : G} {ρ : Rho} {μ μ1 : Mu} {t : T} {a b : E} {r : Res D} (h : evalT Γ t ρ μ = .ok false μ1) (hb : evalE Γ b ρ μ1 = r) : evalE Γ (.ite t a b) ρ μ = r := by
  rw [evalE, h, bind_ok, if_neg (by decide), hb]
theorem run_nx_rt {Γ : G} {s : PyI.S} {b : B} {ρ : Rho} {μ μ' : Mu} {d : D} (h : runS Γ s ρ μ = .rt d μ') : runB Γ (.cons s b) ρ μ = .rt d μ' := run_rt h
theorem ifs_true {Γ : G} {t : T} {a b : B} {ρ : Rho} {μ μ' : Mu} {o : Out} (h : evalT Γ t ρ μ = .ok true μ') (h2 : runB Γ a ρ μ' = o) : runS Γ (.ifs t a b) ρ μ = o := by
  rw [runS, h, then_ok, if_pos rfl]
  exact h2
theorem ifs_false {Γ : G} {t : T} {a b : B} {ρ : Rho} {μ μ' : Mu} {o : Out} (h : evalT Γ t ρ μ = .ok false μ') (h2 : runB Γ b ρ μ' = o) : runS Γ (.ifs t a b) ρ μ = o := by
  rw [runS, h, then_ok, if_neg (by decide)]
  exact h2
theorem run_nil {Γ : G} {ρ : Rho} {μ : Mu} : runB Γ .nil ρ μ = .nx ρ μ := by rw [runB]
theorem run_br {Γ : G} {s : PyI.S} {b : B} {ρ ρ' : Rho} {μ μ' : Mu} (h : runS Γ s ρ μ = .br ρ' μ') : runB Γ (.cons s b) ρ μ = .br ρ' μ' := by
  rw [runB, h]
  rfl
theorem atI_nat (l : List D) (n : Nat) : atI l (n : Int) = l[n]? := by
  unfold atI ixN
  rw [if_pos (Int.natCast_nonneg n)]
  by_cases h : (n : Int) < (l.length : Int)
  · rw [if_pos h]; rfl
  · rw [if_neg h, List.getElem?_eq_none (by omega)]; rfl
theorem ix_tup {l : List D} {n : Nat} {d : D} {μ : Mu} (h : l[n]? = some d) : idxD (.tup l) (.int (n : Int)) μ = .ok d μ := by
  show (match seqD μ (.tup l) with
    | some l => match atI l (n : Int) with
      | some d => Res.ok d μ
      | none => .stuck
    | none => .stuck) = _
  simp only [seqD, atI_nat, h]
theorem ix_lst {l : List D} {n : Nat} {d : D} {μ : Mu} (h : l[n]? = some d) : idxD (.lst l) (.int (n : Int)) μ = .ok d μ := by
  show (match seqD μ (.lst l) with
    | some l => match atI l (n : Int) with
      | some d => Res.ok d μ
      | none => .stuck
    | none => .stuck) = _
  simp only [seqD, atI_nat, h]
theorem ix0 {a : D} {l : List D} {μ : Mu} : idxD (.tup (a :: l)) (.int 0) μ = .ok a μ := ix_tup (n := 0) rfl
theorem ix1 {a b : D} {l : List D} {μ : Mu} : idxD (.tup (a :: b :: l)) (.int 1) μ = .ok b μ := ix_tup (n := 1) rfl
theorem ix2 {a b c : D} {l : List D} {μ : Mu} : idxD (.tup (a :: b :: c :: l)) (.int 2) μ = .ok c μ := ix_tup (n := 2) rfl
theorem ix3 {a b c d : D} {l : List D} {μ : Mu} : idxD (.tup (a :: b :: c :: d :: l)) (.int 3) μ = .ok d μ := ix_tup (n := 3) rfl
theorem il0 {a : D} {l : List D} {μ : Mu} : idxD (.lst (a :: l)) (.int 0) μ = .ok a μ := ix_lst (n := 0) rfl
theorem il1 {a b : D} {l : List D} {μ : Mu} : idxD (.lst (a :: b :: l)) (.int 1) μ = .ok b μ := ix_lst (n := 1) rfl
/-- one def, called -/
theorem call_of {k f : Nat} {b : B} {ρ : Rho} {ds : List D} {μ μ' : Mu} {d : D} (hc : callD prg.tab prg.con prg.dic prg.wf (k + 1) f ds μ = finO μ.length (runB (gg k) b ρ μ)) (hl : μ'.length = μ.length) (h : runB (gg k) b ρ μ = .rt d μ') : (gg (k + 1)).call f ds μ = .ok d μ' := by
  show callD prg.tab prg.con prg.dic prg.wf (k + 1) f ds μ = _
  rw [hc, h, finO_rt, fin_same hl]
/-- the numbers from lo to hi -/
abbrev sp (lo hi : Nat) : Nat → Bool := fun i => decide (lo ≤ i) && decide (i ≤ hi)
theorem span_mask {k lo hi n : Nat} {μ : Mu} (h : lo ≤ hi + 1) (hn : hi < n) (h2 : hi ≤ 300) : (gg (k + 1)).call n_span_mask [.int lo, .int hi] μ = .ok (.int (mk (sp lo hi) n : Nat)) μ := by
  refine call_of c_span_mask rfl (run_rt (st_ret (ev_bin (ev_bin ev_cst (ev_bin (ev_var rfl) ev_cst rfl) (shl1 (n := hi + 1) (by omega))) (ev_bin ev_cst (ev_var rfl) (shl1 (by omega))) ?_)))
  have : mk (sp lo hi) n + 2 ^ lo = 2 ^ (hi + 1) := mk_span h hn
  show Res.ok (D.int _) μ = _
  congr 2
  omega
theorem repeated {k p q : Nat} {g : Nat → Bool} {μ : Mu} (hp : 0 < p) (h : p * q = 300) : (gg (k + 1)).call n_repeated [.int (mk g p : Nat), .int p] μ = .ok (.int (mk (fun n => g (n % p)) 300 : Nat)) μ := by
  have h2 : 1 < 2 ^ p := Nat.one_lt_two_pow (by omega)
  have hp3 : p ≤ 300 := by rw [← h]; exact Nat.le_mul_of_pos_right p (by rcases Nat.eq_zero_or_pos q with e | e; (subst e; simp at h); exact e)
  have e1 : ((2 ^ p : Nat) : Int) - 1 = ((2 ^ p - 1 : Nat) : Int) := by omega
  have lg : ∀ {x : Nat}, x < 2 ^ 300 → x.log2 < 300 := fun {x} hx => by
    rcases Nat.eq_zero_or_pos x with e | e
    · subst e; decide
    · exact (Nat.log2_lt (by omega)).mpr hx
  have l1 : 2 ^ p ≤ 2 ^ 300 := Nat.pow_le_pow_right (by decide) hp3
  have l2 : 2 ^ p - 1 < 2 ^ 300 := by omega
  have n1 : 0 < ((2 ^ p - 1 : Nat) : Int) ∧ (((2 ^ p - 1 : Nat) : Int) < 1073741824 ∨ ((2 ^ p - 1 : Nat) : Int).natAbs.log2 < 9000) := ⟨by omega, .inr (by rw [Int.natAbs_natCast]; exact Nat.lt_trans (lg l2) (by decide))⟩
  have hg : ALLn / (2 ^ p - 1) = geo p q := all_div hp h
  have l3 : geo p q < 2 ^ 300 := by rw [← hg]; exact Nat.lt_of_le_of_lt (Nat.div_le_self _ _) (by unfold ALLn; exact Nat.sub_lt (Nat.two_pow_pos 300) (by decide))
  have l4 : mk g p < 2 ^ 300 := Nat.lt_of_lt_of_le (mk_lt g p) l1
  have n2 : (lim64 (mk g p : Nat) ∨ lim64 ((geo p q : Nat) : Int)) ∨ ((mk g p : Nat) : Int).natAbs.log2 + ((geo p q : Nat) : Int).natAbs.log2 < 1000000 := .inr (by rw [Int.natAbs_natCast, Int.natAbs_natCast]; have := lg l3; have := lg l4; omega)
  refine call_of c_repeated rfl (run_rt (st_ret (ev_bin (ev_var rfl) (ev_bin (ev_glob con3) (ev_bin (ev_bin ev_cst (ev_var rfl) (shl1 (by omega))) ev_cst rfl) (r := .ok (.int (geo p q : Nat)) μ) ?_) ?_)))
  · rw [e1]
    show needs _ _ = _
    rw [needs_pos n1, ← hg, Int.natCast_ediv]
  · show needs _ _ = _
    rw [needs_pos n2, ← h, mk_rep hp, Int.natCast_mul]
end PyI.K01
/-! Q2: conditions, drawn, and their masks. -/
namespace PyI.K01
open PySem L2 PyProof.Rows
inductive At where
  | rest (m lo hi : Nat)
  | inn (lo : Nat) (hi : Option Nat)
def oD : Option Nat → D
  | none => .non
  | some n => .int (n : Int)
def atD : At → D
  | .rest m lo hi => .tup [.str "rest", .int (m : Int), .int (lo : Int), .int (hi : Int)]
  | .inn lo hi => .tup [.str "in", .int (lo : Int), oD hi]
def amD : Bool × At → D
  | (true, a) => .tup [.str "not", atD a]
  | (false, a) => atD a
abbrev Cd := List (List (Bool × At))
def cdD (c : Cd) : D := .tup (c.map fun as => .tup (as.map amD))
def hAt : At → Nat → Bool
  | .rest m lo hi, n => decide (lo ≤ n % m) && decide (n % m ≤ hi)
  | .inn lo none, n => decide (lo ≤ n)
  | .inn lo (some hi), n => decide (lo ≤ n) && decide (n ≤ hi)
def hAm (a : Bool × At) (n : Nat) : Bool := a.1 ^^ hAt a.2 n
def hCd (c : Cd) (n : Nat) : Bool := c.any fun as => as.all fun a => hAm a n
def okAt : At → Prop
  | .rest m lo hi => m ∈ [2, 4, 5, 10, 20, 25, 100] ∧ lo ≤ hi ∧ hi < m
  | .inn lo none => lo ≤ 100
  | .inn lo (some hi) => lo ≤ hi ∧ hi ≤ 100
def okCd (c : Cd) : Prop := ∀ as ∈ c, ∀ a ∈ as, okAt a.2
theorem eq_str {x y : Str} {μ : Mu} (hx : x.cps.all (· < 0x110000) = true) (hy : y.cps.all (· < 0x110000) = true) : cmpD .eq (.str x) (.str y) μ = .ok (x == y) μ := by
  show needs _ _ = _
  rw [needs_pos ⟨hx, hy⟩]
  rfl
theorem ne_str {x y : Str} {μ : Mu} (hx : x.cps.all (· < 0x110000) = true) (hy : y.cps.all (· < 0x110000) = true) : cmpD .ne (.str x) (.str y) μ = .ok (!(x == y)) μ := by
  show needs _ _ = _
  rw [needs_pos ⟨hx, hy⟩]
  rfl
theorem w_nn {μ : Mu} : cmpD .eq (.str "not") (.str "not") μ = .ok true μ := eq_str (by decide +kernel) (by decide +kernel)
theorem w_rn {μ : Mu} : cmpD .eq (.str "rest") (.str "not") μ = .ok false μ := (eq_str (by decide +kernel) (by decide +kernel)).trans (congrArg (fun b => Res.ok b μ) (by decide +kernel))
theorem w_in {μ : Mu} : cmpD .eq (.str "in") (.str "not") μ = .ok false μ := (eq_str (by decide +kernel) (by decide +kernel)).trans (congrArg (fun b => Res.ok b μ) (by decide +kernel))
theorem w_rr {μ : Mu} : cmpD .eq (.str "rest") (.str "rest") μ = .ok true μ := eq_str (by decide +kernel) (by decide +kernel)
theorem w_ir {μ : Mu} : cmpD .eq (.str "in") (.str "rest") μ = .ok false μ := (eq_str (by decide +kernel) (by decide +kernel)).trans (congrArg (fun b => Res.ok b μ) (by decide +kernel))
theorem w_ii {μ : Mu} : cmpD .eq (.str "in") (.str "in") μ = .ok true μ := eq_str (by decide +kernel) (by decide +kernel)
theorem w_ri {μ : Mu} : cmpD .eq (.str "rest") (.str "in") μ = .ok false μ := (eq_str (by decide +kernel) (by decide +kernel)).trans (congrArg (fun b => Res.ok b μ) (by decide +kernel))
theorem period_300 {m : Nat} (h : m ∈ [2, 4, 5, 10, 20, 25, 100]) : 0 < m ∧ ∃ q, m * q = 300 := by
  simp only [List.mem_cons, List.not_mem_nil, or_false] at h
  rcases h with rfl | rfl | rfl | rfl | rfl | rfl | rfl
  · exact ⟨by decide, 150, rfl⟩
  · exact ⟨by decide, 75, rfl⟩
  · exact ⟨by decide, 60, rfl⟩
  · exact ⟨by decide, 30, rfl⟩
  · exact ⟨by decide, 15, rfl⟩
  · exact ⟨by decide, 12, rfl⟩
  · exact ⟨by decide, 3, rfl⟩
theorem atom_plain {k : Nat} {a : At} {μ : Mu} (ok : okAt a) : (gg (k + 2)).call n_atom_mask [atD a] μ = .ok (.int (mk (hAt a) 300 : Nat)) μ := by
  cases a with
  | rest m lo hi =>
    obtain ⟨h1, h2, h3⟩ := ok
    obtain ⟨hp, q, hq⟩ := period_300 h1
    have hm : m ≤ 300 := by rw [← hq]; exact Nat.le_mul_of_pos_right m (by rcases Nat.eq_zero_or_pos q with e | e; (subst e; simp at hq); exact e)
    show (gg (k + 2)).call n_atom_mask [.tup [.str "rest", .int (m : Int), .int (lo : Int), .int (hi : Int)]] μ = _
    refine call_of c_atom_mask rfl ?_
    refine run_nx (ifs_false (μ' := μ) (tv_bl (ev_cmp (ev_idx (ev_var rfl) ev_cst ix0) ev_cst w_rn)) run_nil) ?_
    refine run_nx_rt (ifs_true (μ' := μ) (tv_bl (ev_cmp (ev_idx (ev_var rfl) ev_cst ix0) ev_cst w_rr)) (run_rt (st_ret ?_)))
    have hs := span_mask (k := k) (lo := lo) (hi := hi) (n := m) (μ := μ) (by omega) h3 (by omega)
    refine ev_call2 (x := .int (mk (sp lo hi) m : Nat)) (y := .int (m : Int)) (μ1 := μ) (μ2 := μ) (ev_call2 (x := .int (lo : Int)) (y := .int (hi : Int)) (ev_idx (ev_var rfl) ev_cst ix2) (ev_idx (ev_var rfl) ev_cst ix3) hs) (ev_idx (ev_var rfl) ev_cst ix1) ?_
    -- (k := k) (n := m) (by omega) h3 (by omega))) (ev_idx (ev_var rfl) ev_cst ix1) ?_
    exact repeated (k := k) hp hq
  | inn lo hi =>
    refine call_of c_atom_mask rfl ?_
    refine run_nx (ifs_false (μ' := μ) (tv_bl (ev_cmp (ev_idx (ev_var rfl) ev_cst ix0) ev_cst w_in)) run_nil) ?_
    refine run_nx (ifs_false (μ' := μ) (tv_bl (ev_cmp (ev_idx (ev_var rfl) ev_cst ix0) ev_cst w_ir)) run_nil) ?_
    cases hi with
    | none =>
      have h1 : lo ≤ 100 := ok
      have e : mk (hAt (.inn lo none)) 300 = mk (sp lo 299) 300 := mk_ext fun i hi => by
        show decide (lo ≤ i) = (decide (lo ≤ i) && decide (i ≤ 299))
        rw [decide_eq_true (show i ≤ 299 by omega), Bool.and_true]
      rw [e]
      refine run_rt (st_ret (ev_call2 (ev_idx (ev_var rfl) ev_cst ix1) (y := .int ((299 : Nat) : Int)) ?_ (span_mask (k := k) (by omega) (by omega) (by omega))))
      exact ev_ite_true (tv_bl (ev_cmp (ev_idx (ev_var rfl) ev_cst ix2) ev_cst rfl)) (ev_bin (ev_glob con2) ev_cst rfl)
    | some hi =>
      obtain ⟨h1, h2⟩ : lo ≤ hi ∧ hi ≤ 100 := ok
      refine run_rt (st_ret (ev_call2 (ev_idx (ev_var rfl) ev_cst ix1) ?_ (span_mask (k := k) (hi := hi) (by omega) (by omega) (by omega))))
      exact ev_ite_false (tv_bl (ev_cmp (ev_idx (ev_var rfl) ev_cst ix2) ev_cst rfl)) (ev_idx (ev_var rfl) ev_cst ix2)
theorem atom_mask {k : Nat} {a : Bool × At} {μ : Mu} (ok : okAt a.2) : (gg (k + 3)).call n_atom_mask [amD a] μ = .ok (.int (mk (hAm a) 300 : Nat)) μ := by
  obtain ⟨s, a⟩ := a
  cases s with
  | false =>
    have e : mk (hAm (false, a)) 300 = mk (hAt a) 300 := mk_ext fun i _ => by show (false ^^ hAt a i) = _; simp
    rw [e]
    exact atom_plain (k := k + 1) ok
  | true =>
    refine call_of c_atom_mask rfl ?_
    refine run_nx_rt (ifs_true (μ' := μ) (tv_bl (ev_cmp (ev_idx (ev_var rfl) ev_cst ix0) ev_cst w_nn)) (run_rt (st_ret ?_)))
    refine ev_bin (ev_glob con3) (ev_call1 (ev_idx (ev_var rfl) ev_cst ix1) (atom_plain (k := k) ok)) ?_
    show Res.ok (D.int (Builtin.bitXor _ _)) μ = _
    rw [all_mk, i_xor]
    rfl
end PyI.K01
/-! Q3: the mask of a condition. -/
namespace PyI.K01
open PySem L2 PyProof.Rows
def nthS : B → Nat → PyI.S
  | .nil, _ => .pass
  | .cons s _, 0 => s
  | .cons _ b, n + 1 => nthS b n
def forB : PyI.S → B
  | .for_ _ _ b => b
  | .whl _ b => b
  | _ => .nil
theorem it_tup {Γ : G} {e : E} {ρ : Rho} {μ μ' : Mu} {l : List D} (h : evalE Γ e ρ μ = .ok (.tup l) μ') : evalIt Γ (.seq e) ρ μ = .ok (l, none) μ' := by
  rw [evalIt, h, bind_ok, itD]
theorem it_lst {Γ : G} {e : E} {ρ : Rho} {μ μ' : Mu} {l : List D} (h : evalE Γ e ρ μ = .ok (.lst l) μ') : evalIt Γ (.seq e) ρ μ = .ok (l, none) μ' := by
  rw [evalIt, h, bind_ok, itD]
theorem mk_congr {f g : Nat → Bool} {n : Nat} (h : ∀ i, f i = g i) : mk f n = mk g n := mk_ext fun i _ => h i
theorem band_mk {f g : Nat → Bool} {n : Nat} {μ : Mu} : binD .band (.int (mk f n : Nat)) (.int (mk g n : Nat)) μ = .ok (.int (mk (fun i => f i && g i) n : Nat)) μ := by
  show Res.ok (D.int _) μ = _
  rw [i_and]
theorem bor_mk {f g : Nat → Bool} {n : Nat} {μ : Mu} : binD .bor (.int (mk f n : Nat)) (.int (mk g n : Nat)) μ = .ok (.int (mk (fun i => f i || g i) n : Nat)) μ := by
  show Res.ok (D.int _) μ = _
  rw [i_or]
theorem bxor_mk {f g : Nat → Bool} {n : Nat} {μ : Mu} : binD .bxor (.int (mk f n : Nat)) (.int (mk g n : Nat)) μ = .ok (.int (mk (fun i => f i ^^ g i) n : Nat)) μ := by
  show Res.ok (D.int _) μ = _
  rw [i_xor]
theorem inner_mask {k : Nat} {as : List (Bool × At)} (ok : ∀ a ∈ as, okAt a.2) {x0 x1 x2 o4 : Option D} {f : Nat → Bool} {μ : Mu} :
    ∃ ρ' μ', forLoop (fbody (gg (k + 3)) (.nm 4) (forB (nthS (forB (nthS b_condition_mask 1)) 1))) (chkOf none) (as.map amD) [x0, x1, x2, some (.int (mk f 300 : Nat)), o4] μ = .nx ρ' μ' ∧
      ∃ o, ρ' = [x0, x1, x2, some (.int (mk (fun n => f n && as.all fun a => hAm a n) 300 : Nat)), o] ∧ μ' = μ := by
  induction as generalizing f o4 with
  | nil => exact ⟨_, _, by rw [List.map_nil]; unfold forLoop; rw [if_pos (show chkOf none μ = true from rfl)], o4, by rw [mk_congr (f := fun n => f n && ([] : List (Bool × At)).all fun a => hAm a n) (g := f) fun i => by simp], rfl⟩
  | cons a as ih =>
    obtain ⟨ρ', μ', e, o, h1, h2⟩ := ih (fun b hb => ok b (List.mem_cons_of_mem _ hb)) (f := fun n => f n && hAm a n) (o4 := some (amD a))
    refine ⟨ρ', μ', ?_, o, ?_, h2⟩
    · rw [List.map_cons]
      unfold forLoop
      rw [if_pos (show chkOf none μ = true from rfl), fbody_nm]
      have st : runB (gg (k + 3)) (forB (nthS (forB (nthS b_condition_mask 1)) 1)) ([x0, x1, x2, some (.int (mk f 300 : Nat)), o4].set 4 (some (amD a))) μ = .nx [x0, x1, x2, some (.int (mk (fun n => f n && hAm a n) 300 : Nat)), some (amD a)] μ :=
        run_nx (st_set (ev_bin (ev_var rfl) (ev_call1 (ev_var rfl) (atom_mask (k := k) (ok a (List.mem_cons_self ..)))) band_mk)) run_nil
      rw [st]
      exact e
    · rw [h1]
      rw [mk_congr (f := fun n => (f n && hAm a n) && as.all fun a => hAm a n) (g := fun n => f n && (a :: as).all fun a => hAm a n) fun i => by simp [Bool.and_assoc]]
theorem condition_mask {k : Nat} {c : Cd} (ok : okCd c) {μ : Mu} : (gg (k + 4)).call n_condition_mask [cdD c] μ = .ok (.int (mk (hCd c) 300 : Nat)) μ := by
  have loop : ∀ (c : Cd), okCd c → ∀ (f : Nat → Bool) (x0 o2 o3 o4 : Option D), ∃ ρ' μ', forLoop (fbody (gg (k + 3)) (.nm 2) (forB (nthS b_condition_mask 1))) (chkOf none) (c.map fun as => .tup (as.map amD)) [x0, some (.int (mk f 300 : Nat)), o2, o3, o4] μ = .nx ρ' μ' ∧
      ∃ a b d, ρ' = [x0, some (.int (mk (fun n => f n || hCd c n) 300 : Nat)), a, b, d] ∧ μ' = μ := by
    intro c
    induction c with
    | nil =>
      intro _ f x0 o2 o3 o4
      exact ⟨_, _, by rw [List.map_nil]; unfold forLoop; rw [if_pos (show chkOf none μ = true from rfl)], o2, o3, o4, by rw [mk_congr (f := fun n => f n || hCd [] n) (g := f) fun i => by simp [hCd]], rfl⟩
    | cons as c ih =>
      intro ok f x0 o2 o3 o4
      obtain ⟨ρ1, μ1, e1, o, rfl, rfl⟩ := inner_mask (k := k) (ok as (List.mem_cons_self ..)) (x0 := x0) (x1 := some (.int (mk f 300 : Nat))) (x2 := some (.tup (as.map amD))) (o4 := o4) (f := fun _ => true) (μ := μ)
      obtain ⟨ρ', μ', e, a, b, d, h1, h2⟩ := ih (fun b hb => ok b (List.mem_cons_of_mem _ hb)) (fun n => f n || (true && as.all fun a => hAm a n)) x0 (some (.tup (as.map amD))) (some (.int (mk (fun n => true && as.all fun a => hAm a n) 300 : Nat))) o
      refine ⟨ρ', μ', ?_, a, b, d, ?_, h2⟩
      · rw [List.map_cons]
        unfold forLoop
        rw [if_pos (show chkOf none μ1 = true from rfl), fbody_nm]
        have g3 : evalE (gg (k + 3)) (.glob 3) [x0, some (.int (mk f 300 : Nat)), some (.tup (as.map amD)), o3, o4] μ1 = .ok (.int (mk (fun _ => true) 300 : Nat)) μ1 := by
          rw [← all_mk]; exact ev_glob con3
        have st : runB (gg (k + 3)) (forB (nthS b_condition_mask 1)) ([x0, some (.int (mk f 300 : Nat)), o2, o3, o4].set 2 (some (.tup (as.map amD)))) μ1 = .nx [x0, some (.int (mk (fun n => f n || (true && as.all fun a => hAm a n)) 300 : Nat)), some (.tup (as.map amD)), some (.int (mk (fun n => true && as.all fun a => hAm a n) 300 : Nat)), o] μ1 := by
          refine run_nx (st_set g3) (run_nx (for_run' (it_tup (ev_var rfl)) e1) (run_nx (st_set (ev_bin (ev_var rfl) (ev_var rfl) bor_mk)) run_nil))
        rw [st]
        exact e
      · rw [h1]
        rw [mk_congr (f := fun n => (f n || (true && as.all fun a => hAm a n)) || hCd c n) (g := fun n => f n || hCd (as :: c) n) fun i => by simp [hCd, Bool.or_assoc]]
  obtain ⟨ρ', μ', e, a, b, d, rfl, rfl⟩ := loop c ok (fun _ => false) (some (cdD c)) none none none
  have h0 : mk (fun _ => false) 300 = 0 := mk_none fun _ _ => rfl
  rw [h0] at e
  rw [mk_congr (f := hCd c) (g := fun n => false || hCd c n) fun i => by simp]
  exact call_of c_condition_mask rfl (run_nx (st_set ev_cst) (run_nx (for_run' (it_tup (ev_var rfl)) e) (run_rt (st_ret (ev_var rfl)))))
end PyI.K01
/-! Q4: the set of a mask. -/
namespace PyI.K01
open PySem L2 PyProof.Rows
def prD (r : Nat × Nat) : D := .tup [.int (r.1 : Int), .int (r.2 : Int)]
def nD (n : Nat) : D := .int (n : Int)
def setD (l : List (Nat × Nat)) (s p : Nat) (rs : List Nat) : D := .tup [.str "set", .tup [.tup (l.map prD), .int (s : Int)], .int (p : Int), .tup (rs.map nD)]
/-- the one set -/
def theSet (f : Nat → Bool) (p s : Nat) : D := setD (runs f s) s p (rests f p)
theorem mk_div' (f : Nat → Bool) {k n : Nat} (h : k ≤ n) : mk f n / 2 ^ k = mk (fun i => f (i + k)) (n - k) := by
  obtain ⟨m, rfl⟩ : ∃ m, n = k + m := ⟨n - k, by omega⟩
  rw [mk_div, Nat.add_sub_cancel_left]
theorem mk_mod' (f : Nat → Bool) {k n : Nat} (h : k ≤ n) : mk f n % 2 ^ k = mk f k := by
  obtain ⟨m, rfl⟩ : ∃ m, n = k + m := ⟨n - k, by omega⟩
  rw [mk_mod]
theorem mk_ext' (f : Nat → Bool) {k n : Nat} (h : k ≤ n) : mk f k = mk (fun i => decide (i < k) && f i) n := by
  rw [mk_cut (f := fun i => decide (i < k) && f i) h fun i h1 _ => by rw [decide_eq_false (by omega)]; rfl]
  exact mk_ext fun i hi => by rw [decide_eq_true hi]; rfl
theorem band_low {x k : Nat} {μ : Mu} : binD .band (.int (x : Int)) (.int ((2 ^ k : Nat) - 1 : Int)) μ = .ok (.int ((x % 2 ^ k : Nat) : Int)) μ := by
  show Res.ok (D.int _) μ = _
  have := @i_mod x k
  rw [Int.natCast_pow]
  exact congrArg (fun i => Res.ok (D.int i) μ) this
/-- a loop that a round ends by return -/
theorem for_cons_rt {f : D → Rho → Mu → Out} {d x : D} {ds : List D} {ρ : Rho} {μ μ' : Mu} (h : f d ρ μ = .rt x μ') : forLoop f (chkOf none) (d :: ds) ρ μ = .rt x μ' := by
  unfold forLoop
  rw [if_pos (show chkOf none μ = true from rfl), h]
theorem for_cons_nx {f : D → Rho → Mu → Out} {d : D} {ds : List D} {ρ ρ' : Rho} {μ μ' : Mu} {o : Out} (h : f d ρ μ = .nx ρ' μ') (h2 : forLoop f (chkOf none) ds ρ' μ' = o) : forLoop f (chkOf none) (d :: ds) ρ μ = o := by
  unfold forLoop
  rw [if_pos (show chkOf none μ = true from rfl), h]
  exact h2
theorem for_nil {f : D → Rho → Mu → Out} {ρ : Rho} {μ : Mu} : forLoop f (chkOf none) [] ρ μ = .nx ρ μ := by
  unfold forLoop
  rw [if_pos (show chkOf none μ = true from rfl)]
theorem eq_int {i j : Int} {μ : Mu} : cmpD .eq (.int i) (.int j) μ = .ok (i == j) μ := by
  show needs _ _ = _
  rw [needs_pos ⟨rfl, rfl⟩]
  rfl
theorem lper_test {f : Nat → Bool} {b P p s : Nat} (h : Rp f b P p s) {q : Nat} (hq : q ∣ 100) {k : Nat} {o1 : Option D} {μ : Mu} :
    ∃ v, evalE (gg k) (.cmp .eq (.bin .band (.bin .bxor (.var 0) (.bin .shr (.var 0) (.var 1))) (.bin .sub (.bin .shl (.cst (.int 1)) (.bin .sub (.glob 1) (.var 1))) (.cst (.int 1)))) (.cst (.int 0))) [some (.int (mk (fun n => f (n + 200)) 100 : Nat)), some (nD q)] μ = .ok (.bl v) μ ∧ (v = true ↔ Per f b q) := by
  have hq1 : q ≤ 100 := Nat.le_of_dvd (by decide) hq
  have hq0 : 0 < q := Nat.pos_of_dvd_of_pos hq (by decide)
  have e1 : mk (fun n => f (n + 200)) 100 / 2 ^ q = mk (fun i => decide (i < 100 - q) && f (i + q + 200)) 100 := by
    rw [mk_div' _ hq1, mk_ext' _ (Nat.sub_le 100 q)]
  let h' : Nat → Bool := fun i => f (i + 200) ^^ (decide (i < 100 - q) && f (i + q + 200))
  have e2 : mk h' 100 % 2 ^ (100 - q) = mk h' (100 - q) := mk_mod' _ (Nat.sub_le 100 q)
  refine ⟨((mk h' (100 - q) : Nat) : Int) == 0, ?_, ?_⟩
  · refine ev_cmp (μ1 := μ) (x := .int (mk h' (100 - q) : Nat)) (ev_bin (μ1 := μ) (μ2 := μ) (x := .int (mk h' 100 : Nat)) (y := .int ((2 ^ (100 - q) : Nat) - 1 : Int)) (ev_bin (ev_var rfl) (ev_bin (ev_var rfl) (ev_var rfl) (r := .ok (.int (mk (fun i => decide (i < 100 - q) && f (i + q + 200)) 100 : Nat)) μ) ?_) bxor_mk) (ev_bin (μ1 := μ) (μ2 := μ) (x := .int (2 ^ (100 - q) : Nat)) (y := .int 1) (ev_bin (μ1 := μ) (μ2 := μ) (x := .int 1) (y := .int ((100 - q : Nat) : Int)) ev_cst (ev_bin (ev_glob con1) (ev_var rfl) ?_) (shl1 (by omega))) ev_cst rfl) ?_) ev_cst eq_int
    · rw [← e1]; exact shr_ok
    · show Res.ok (D.int _) μ = _
      rw [show (100 : Int) - (q : Int) = ((100 - q : Nat) : Int) by omega]
    · rw [← e2]; exact band_low
  · rw [beq_iff_eq]
    constructor
    · intro hz
      refine per_of_tail h hq fun n hn => ?_
      have := mk_zero (show mk h' (100 - q) = 0 by omega) n hn
      have e3 : (f (n + 200) ^^ (decide (n < 100 - q) && f (n + q + 200))) = false := this
      rw [decide_eq_true hn, Bool.true_and] at e3
      revert e3
      cases f (n + 200) <;> cases f (n + q + 200) <;> simp
    · intro hp
      have : mk h' (100 - q) = 0 := mk_none fun n hn => by
        show (f (n + 200) ^^ (decide (n < 100 - q) && f (n + q + 200))) = false
        rw [decide_eq_true hn, Bool.true_and, tail_of_per h hp n hn]
        simp
      rw [this]; rfl
theorem lper_loop {f : Nat → Bool} {b P p s : Nat} (h : Rp f b P p s) {k : Nat} {μ : Mu} : ∀ (l : List Nat), (∀ q ∈ l, q ∣ 100) → l.Pairwise (· < ·) → p ∈ l → ∀ o1 : Option D,
    forLoop (fbody (gg k) (.nm 1) (forB (nthS b_least_period 0))) (chkOf none) (l.map nD) [some (.int (mk (fun n => f (n + 200)) 100 : Nat)), o1] μ = .rt (nD p) μ
  | [], _, _, hp, _ => by cases hp
  | q :: l, hd, up, hp, o1 => by
    rw [List.pairwise_cons] at up
    obtain ⟨v, e, hv⟩ := lper_test h (hd q (List.mem_cons_self ..)) (k := k) (o1 := o1) (μ := μ)
    rw [List.map_cons]
    by_cases z : q = p
    · subst z
      have : v = true := hv.mpr h.lp.per
      subst this
      refine for_cons_rt ?_
      rw [fbody_nm]
      exact run_rt (ifs_true (tv_bl e) (run_rt (st_ret (ev_var rfl))))
    · have hp' : p ∈ l := by
        rcases List.mem_cons.mp hp with e | e
        · exact absurd e.symm z
        · exact e
      have : v = false := by
        cases v with
        | false => rfl
        | true =>
          have := h.lp.least q (Nat.pos_of_dvd_of_pos (hd q (List.mem_cons_self ..)) (by decide)) (hv.mp rfl)
          have := up.1 p hp'
          omega
      subst this
      refine for_cons_nx (ρ' := [some (.int (mk (fun n => f (n + 200)) 100 : Nat)), some (nD q)]) (μ' := μ) ?_ (lper_loop h l (fun q hq => hd q (List.mem_cons_of_mem _ hq)) up.2 hp' _)
      rw [fbody_nm]
      exact run_nx (ifs_false (tv_bl e) run_nil) run_nil
theorem least_period {f : Nat → Bool} {b P p s : Nat} (h : Rp f b P p s) {k : Nat} {μ : Mu} : (gg (k + 1)).call n_least_period [.int (mk (fun n => f (n + 200)) 100 : Nat)] μ = .ok (nD p) μ := by
  have := lper_loop h (k := k) (μ := μ) [1, 2, 4, 5, 10, 20, 25, 50, 100] (by decide) (by decide) (dvd_list h.dvd100) none
  exact call_of c_least_period rfl (run_rt (for_run' (it_tup (ev_glob con4)) this))
end PyI.K01
/-! Q5: the runs of a mask; the set of a mask. -/
namespace PyI.K01
open PySem L2 PyProof.Rows
theorem whl_dec {c : Rho → Mu → Res Bool} {f : Rho → Mu → Out} (I : Nat → Rho → Mu → Prop) (P : Rho → Mu → Prop)
    (hs : ∀ m ρ μ, I m ρ μ → (c ρ μ = .ok false μ ∧ P ρ μ) ∨ (c ρ μ = .ok true μ ∧ ∃ ρ' μ' m', f ρ μ = .nx ρ' μ' ∧ m' < m ∧ I m' ρ' μ')) :
    ∀ (n m : Nat) {ρ : Rho} {μ : Mu}, m < n → I m ρ μ → ∃ ρ' μ', whileLoop c f n ρ μ = .nx ρ' μ' ∧ P ρ' μ'
  | 0, m, _, _, h, _ => absurd h (Nat.not_lt_zero _)
  | n + 1, m, ρ, μ, h, hi => by
    rcases hs m ρ μ hi with ⟨e, hp⟩ | ⟨e, ρ', μ', m', e2, hm, hi'⟩
    · refine ⟨ρ, μ, ?_, hp⟩
      unfold whileLoop
      rw [e]
      rfl
    · obtain ⟨ρ2, μ2, e3, hp⟩ := whl_dec I P hs n m' (by omega) hi'
      refine ⟨ρ2, μ2, ?_, hp⟩
      unfold whileLoop
      rw [e, then_ok, if_pos rfl, e2]
      exact e3
theorem least_bit {f : Nat → Bool} {n g k : Nat} {μ : Mu} (hk : g < n) (h1 : f g = true) (h0 : ∀ i, i < g → f i = false) : (gg (k + 1)).call n_least_bit [.int (mk f n : Nat)] μ = .ok (nD g) μ := by
  refine call_of c_least_bit rfl (run_rt (st_ret (ev_bin (μ1 := μ) (μ2 := μ) (x := .int ((g + 1 : Nat) : Int)) (y := .int 1) ?_ ev_cst ?_)))
  · have e := mk_least hk h1 h0
    have : evalE (gg k) (.bin .band (.var 0) (.neg (.var 0))) (startR f_least_bit.N.length [.int (mk f n : Nat)]) μ = .ok (.int ((2 ^ g : Nat) : Int)) μ := by
      refine ev_bin (ev_var rfl) (μ2 := μ) (y := .int (-(mk f n : Nat))) ?_ ?_
      · rw [evalE, ev_var (d := .int (mk f n : Nat)) rfl, bind_ok]
      · show Res.ok (D.int _) μ = _
        rw [e]
    have := ev_bits this
    rw [bits_pow] at this
    exact this
  · show Res.ok (D.int (((g + 1 : Nat) : Int) - 1)) μ = _
    rw [show ((g + 1 : Nat) : Int) - 1 = (g : Int) by omega]
    rfl
/-- the first that holds -/
theorem first_true {f : Nat → Bool} : ∀ {n : Nat}, mk f n ≠ 0 → ∃ g, g < n ∧ f g = true ∧ ∀ i, i < g → f i = false := by
  intro n h
  have key : ∀ m, m ≤ n → (∀ i, i < m → f i = false) ∨ ∃ g, g < n ∧ f g = true ∧ ∀ i, i < g → f i = false := by
    intro m
    induction m with
    | zero => intro _; exact .inl fun i hi => by omega
    | succ m ih =>
      intro hm
      rcases ih (by omega) with q | q
      · cases e : f m with
        | true => exact .inr ⟨m, by omega, e, q⟩
        | false =>
          refine .inl fun i hi => ?_
          rcases Nat.lt_or_ge i m with z | z
          · exact q i z
          · rw [show i = m by omega]; exact e
      · exact .inr q
  rcases key n (Nat.le_refl _) with q | q
  · exact absurd (mk_none q) h
  · exact q
theorem first_false {f : Nat → Bool} (n : Nat) : ∃ g, g ≤ n ∧ (∀ i, i < g → f i = true) ∧ (g = n ∨ f g = false) := by
  induction n with
  | zero => exact ⟨0, Nat.le_refl _, fun i hi => by omega, .inl rfl⟩
  | succ n ih =>
    obtain ⟨g, h1, h2, h3⟩ := ih
    rcases h3 with e | e
    · cases q : f n with
      | true =>
        refine ⟨n + 1, Nat.le_refl _, fun i hi => ?_, .inl rfl⟩
        rcases Nat.lt_or_ge i n with z | z
        · exact h2 i (by omega)
        · rw [show i = n by omega]; exact q
      | false => exact ⟨g, by omega, h2, .inr (by rw [e]; exact q)⟩
    · exact ⟨g, by omega, h2, .inr e⟩
/-- one more: the ones below go, the next comes -/
theorem mk_succ {f : Nat → Bool} {L n : Nat} (hL : L ≤ n) (h1 : ∀ i, i < L → f i = true) (h2 : L = n ∨ f L = false) : mk f n + 1 = mk (fun i => if i < L then false else if i = L then true else (decide (i < n) && f i)) (n + 1) := by
  have low : ∀ m, (∀ i, i < m → f i = true) → mk f m + 1 = 2 ^ m := by
    intro m
    induction m with
    | zero => intro _; rfl
    | succ m ih =>
      intro h
      have := ih fun i hi => h i (by omega)
      rw [mk, h m (by omega), Nat.pow_succ]
      simp; omega
  have l0 := low L h1
  obtain ⟨b, rfl⟩ : ∃ b, n = L + b := ⟨n - L, by omega⟩
  rw [mk_add, show L + b + 1 = (L + 1) + b by omega, mk_add _ (L + 1) b, mk, mk_none (n := L) (f := fun i => if i < L then false else if i = L then true else (decide (i < L + b) && f i)) (fun i hi => if_pos hi)]
  simp only [Nat.lt_irrefl, if_false, if_true]
  have e : mk (fun n => f (n + L)) b = 2 * mk (fun n => (if n + (L + 1) < L then false else if n + (L + 1) = L then true else (decide (n + (L + 1) < L + b) && f (n + (L + 1))))) b := by
    cases b with
    | zero => rfl
    | succ b =>
      have hf : f L = false := by
        rcases h2 with e | e
        · omega
        · exact e
      rw [show b + 1 = 1 + b by omega, mk_add _ 1 b, show (1 : Nat) + b = b + 1 by omega]
      have e1 : mk (fun n => f (n + L)) 1 = 0 := by simp [mk, hf]
      rw [e1, Nat.zero_add, Nat.pow_one, mk]
      have e2 : (if b + (L + 1) < L then false else if b + (L + 1) = L then true else (decide (b + (L + 1) < L + (b + 1)) && f (b + (L + 1)))) = false := by
        rw [if_neg (by omega), if_neg (by omega), decide_eq_false (by omega)]; rfl
      rw [e2]
      simp only [Bool.false_eq_true, if_false, Nat.add_zero]
      congr 1
      exact mk_ext fun i hi => by
        rw [if_neg (by omega), if_neg (by omega), decide_eq_true (by omega), Bool.true_and]
        congr 1
        omega
  rw [e, Nat.pow_succ, Nat.mul_assoc]
  omega
/-- while mask: .. -/
def msB : B := forB (nthS b_mask_spans 2)
theorem spans_turn {k : Nat} {f : Nat → Bool} {n at_ : Nat} {μ : Mu} {x3 x4 : Option D} (hn : n ≤ 300) (ha : at_ ≤ n) (hc : at_ = 0 ∨ at_ = n ∨ f at_ = false) (hr : (runs f at_).length ≤ at_) (hz : mk (fun i => f (i + at_)) (n - at_) ≠ 0) :
    ∃ at' x3' x4', runB (gg (k + 1)) msB [some (.int (mk (fun i => f (i + at_)) (n - at_) : Nat)), some (.ref μ.length), some (nD at_), x3, x4] (μ ++ [.lst ((runs f at_).map prD)]) =
      .nx [some (.int (mk (fun i => f (i + at')) (n - at') : Nat)), some (.ref μ.length), some (nD at'), x3', x4'] (μ ++ [.lst ((runs f at').map prD)]) ∧ at_ < at' ∧ at' ≤ n ∧ (at' = n ∨ f at' = false) ∧ (runs f at').length ≤ at' := by
  obtain ⟨g, g1, g2, g3⟩ := first_true hz
  obtain ⟨L, l1, l2, l3⟩ := first_false (f := fun i => f (i + (at_ + g))) (n - at_ - g)
  have hL0 : 0 < L := by
    rcases Nat.eq_zero_or_pos L with e | e
    · subst e
      rcases l3 with e | e
      · omega
      · rw [show 0 + (at_ + g) = g + at_ by omega] at e
        rw [g2] at e; cases e
    · exact e
  have r1 : runs f (at_ + g) = runs f at_ := runs_skip fun i h1 h2 => by
    have := g3 (i - at_) (by omega)
    rw [show i - at_ + at_ = i by omega] at this
    exact this
  have h0 : at_ + g = 0 ∨ f (at_ + g - 1) = false := by
    rcases Nat.eq_zero_or_pos g with e | e
    · subst e
      rcases hc with q | q | q
      · exact .inl (by omega)
      · omega
      · rw [Nat.zero_add] at g2; rw [g2] at q; cases q
    · refine .inr ?_
      have := g3 (g - 1) (by omega)
      rw [show g - 1 + at_ = at_ + g - 1 by omega] at this
      exact this
  obtain ⟨M, rfl⟩ : ∃ M, L = M + 1 := ⟨L - 1, by omega⟩
  have r2 : runs f (at_ + g + (M + 1)) = runs f at_ ++ [(at_ + g, at_ + g + M)] := by
    rw [runs_full h0 fun i h1 h2 => ?_, r1]
    have := l2 (i - (at_ + g)) (by omega)
    rw [show i - (at_ + g) + (at_ + g) = i by omega] at this
    exact this
  refine ⟨at_ + g + (M + 1), some (nD g), some (nD (M + 1)), ?_, by omega, by omega, ?_, ?_⟩
  · have a1 : binD .shr (.int (mk (fun i => f (i + at_)) (n - at_) : Nat)) (nD g) (μ ++ [.lst ((runs f at_).map prD)]) = .ok (.int (mk (fun i => f (i + (at_ + g))) (n - at_ - g) : Nat)) (μ ++ [.lst ((runs f at_).map prD)]) := by
      refine shr_ok.trans ?_
      rw [mk_div' _ (show g ≤ n - at_ by omega), mk_congr (f := fun i => f (i + g + at_)) (g := fun i => f (i + (at_ + g))) fun i => by congr 1; omega]
    have a2 : (mk (fun i => f (i + (at_ + g))) (n - at_ - g) : Int) + 1 = ((mk (fun i => if i < M + 1 then false else if i = M + 1 then true else (decide (i < n - at_ - g) && f (i + (at_ + g)))) (n - at_ - g + 1) : Nat) : Int) := by
      rw [← mk_succ l1 l2 l3]; omega
    have a3 : binD .shr (.int (mk (fun i => f (i + (at_ + g))) (n - at_ - g) : Nat)) (nD (M + 1)) (μ ++ [.lst ((runs f at_).map prD)]) = .ok (.int (mk (fun i => f (i + (at_ + g + (M + 1)))) (n - (at_ + g + (M + 1))) : Nat)) (μ ++ [.lst ((runs f at_).map prD)]) := by
      refine shr_ok.trans ?_
      rw [mk_div' _ l1, mk_congr (f := fun i => f (i + (M + 1) + (at_ + g))) (g := fun i => f (i + (at_ + g + (M + 1)))) fun i => by congr 1; omega]
      rw [show n - at_ - g - (M + 1) = n - (at_ + g + (M + 1)) by omega]
    have hap : ((runs f at_).map prD).length < 16777216 := by rw [List.length_map]; omega
    generalize hν : μ ++ [.lst ((runs f at_).map prD)] = ν at *
    refine run_nx (st_set (ev_call1 (ev_var rfl) (least_bit (k := k) g1 g2 g3))) ?_
    refine run_nx (st_set (ev_bin (ev_var rfl) (ev_var rfl) a1)) ?_
    refine run_nx (st_set (ev_call1 (μ1 := ν) (x := .int (mk (fun i => if i < M + 1 then false else if i = M + 1 then true else (decide (i < n - at_ - g) && f (i + (at_ + g)))) (n - at_ - g + 1) : Nat)) ?_ (least_bit (k := k) (g := M + 1) (by omega) (by simp) (fun i hi => if_pos hi)))) ?_
    · refine ev_bin (ev_var rfl) ev_cst ?_
      show Res.ok (D.int _) ν = _
      rw [a2]
    refine run_nx (st_set (ev_bin (ev_var rfl) (ev_var rfl) a3)) ?_
    refine run_nx (st_set (ev_bin (ev_bin (ev_var rfl) (ev_var rfl) rfl) (ev_var rfl) (r := .ok (nD (at_ + g + (M + 1))) ν) ?_)) ?_
    · show Res.ok (D.int ((at_ : Int) + (g : Int) + ((M + 1 : Nat) : Int))) ν = _
      rw [show (at_ : Int) + (g : Int) + ((M + 1 : Nat) : Int) = ((at_ + g + (M + 1) : Nat) : Int) by omega]
      rfl
    have e3 : evalE (gg (k + 1)) (.tup (.cons (.bin .sub (.var 2) (.var 4)) (.cons (.bin .sub (.var 2) (.cst (.int 1))) .nil))) [some (.int (mk (fun i => f (i + (at_ + g + (M + 1)))) (n - (at_ + g + (M + 1))) : Nat)), some (.ref μ.length), some (nD (at_ + g + (M + 1))), some (nD g), some (nD (M + 1))] ν = .ok (prD (at_ + g, at_ + g + M)) ν := by
      refine (ev_tup2 (ev_bin (ev_var rfl) (ev_var rfl) rfl) (ev_bin (ev_var rfl) ev_cst rfl)).trans ?_
      show Res.ok (D.tup [.int (((at_ + g + (M + 1) : Nat) : Int) - ((M + 1 : Nat) : Int)), .int (((at_ + g + (M + 1) : Nat) : Int) - 1)]) ν = _
      rw [show ((at_ + g + (M + 1) : Nat) : Int) - ((M + 1 : Nat) : Int) = ((at_ + g : Nat) : Int) by omega, show ((at_ + g + (M + 1) : Nat) : Int) - 1 = ((at_ + g + M : Nat) : Int) by omega]
      rfl
    refine run_nx (ρ' := [some (.int (mk (fun i => f (i + (at_ + g + (M + 1)))) (n - (at_ + g + (M + 1))) : Nat)), some (.ref μ.length), some (nD (at_ + g + (M + 1))), some (nD g), some (nD (M + 1))]) (μ' := μ ++ [.lst ((runs f (at_ + g + (M + 1))).map prD)]) ?_ run_nil
    refine st_append (ev_var rfl) e3 (l := (runs f at_).map prD) ?_ hap ?_ ?_
    · rw [← hν]; exact snoc_get
    · rw [← hν, snoc_set, r2, List.map_append]; rfl
    · rw [← hν]; exact snoc_get
  · rcases l3 with e | e
    · exact .inl (by omega)
    · refine .inr ?_
      rw [show M + 1 + (at_ + g) = at_ + g + (M + 1) by omega] at e
      exact e
  · rw [r2, List.length_append, List.length_singleton]; omega
end PyI.K01
/-! Q6: the set of a mask, and back. -/
namespace PyI.K01
open PySem L2 PyProof.Rows
theorem pure_nD : ∀ l : List Nat, pureDs (l.map nD) = true := pureDs_map fun _ => rfl
theorem pure_prD : ∀ l : List (Nat × Nat), pureDs (l.map prD) = true := pureDs_map fun _ => rfl
theorem pure_set {l : List (Nat × Nat)} {s p : Nat} {rs : List Nat} : pureD (setD l s p rs) = true := by
  unfold setD
  simp only [pureD, pureDs, pure_prD, pure_nD, Bool.and_true]
/-- one list was made in it, and is forgotten -/
theorem call_one {k f : Nat} {b : B} {ρ : Rho} {ds : List D} {μ : Mu} {m : MO} {d : D} (hc : callD prg.tab prg.con prg.dic prg.wf (k + 1) f ds μ = finO μ.length (runB (gg k) b ρ μ)) (hμ : PureM μ) (hd : pureD d = true) (h : runB (gg k) b ρ μ = .rt d (μ ++ [m])) : (gg (k + 1)).call f ds μ = .ok d μ := by
  show callD prg.tab prg.con prg.dic prg.wf (k + 1) f ds μ = _
  rw [hc, h, finO_rt, fin_one hμ hd]
theorem st_new {Γ : G} {ρ : Rho} {μ μ1 : Mu} {i : Nat} {e : E} {l : List D} (h : evalE Γ e ρ μ = .ok (.lst l) μ1) : runS Γ (.new i e) ρ μ = .nx (ρ.set i (some (.ref μ1.length))) (μ1 ++ [.lst l]) := by
  rw [runS, h, then_ok]
theorem ev_lst0 {Γ : G} {ρ : Rho} {μ : Mu} : evalE Γ (.lst .nil) ρ μ = .ok (.lst []) μ := by
  rw [evalE, evalEs, bind_ok, needs_pos (by simp)]
theorem st_whl {Γ : G} {t : T} {b : B} {ρ : Rho} {μ : Mu} {o : Out} (h : whileLoop (fun ρ μ => evalT Γ t ρ μ) (fun ρ μ => runB Γ b ρ μ) Γ.wf ρ μ = o) : runS Γ (.whl t b) ρ μ = o := by
  rw [runS]; exact h
theorem tv_int {Γ : G} {ρ : Rho} {μ μ1 : Mu} {e : E} {i : Int} (h : evalE Γ e ρ μ = .ok (.int i) μ1) : evalT Γ (.val e) ρ μ = .ok (i != 0) μ1 := by
  rw [evalT, h, bind_ok, truD]
theorem tuple_ref {μ : Mu} {n : Nat} {l : List D} (h : μ[n]? = some (.lst l)) : bifD .tuple [.ref n] μ = .ok (.tup l) μ := by
  show (match seqD μ (.ref n) with
    | some l => Res.ok (D.tup l) μ
    | none => .stuck) = _
  have : seqD μ (.ref n) = some l := by unfold seqD; simp only [h]
  rw [this]
theorem tuple_lst {μ : Mu} {l : List D} : bifD .tuple [.lst l] μ = .ok (.tup l) μ := rfl
theorem mask_spans {k : Nat} {f : Nat → Bool} {n : Nat} {μ : Mu} (hn : n ≤ 300) (hμ : PureM μ) : (gg (k + 2)).call n_mask_spans [.int (mk f n : Nat)] μ = .ok (.tup ((runs f n).map prD)) μ := by
  obtain ⟨ρ', μ', e, x0, at_, x3, x4, h1, h2, h3⟩ := whl_dec (c := fun ρ μ => evalT (gg (k + 1)) (.val (.var 0)) ρ μ) (f := fun ρ μ => runB (gg (k + 1)) msB ρ μ)
    (fun m ρ ν => ∃ at_ x3 x4, m = n - at_ ∧ at_ ≤ n ∧ (at_ = 0 ∨ at_ = n ∨ f at_ = false) ∧ (runs f at_).length ≤ at_ ∧ ρ = [some (.int (mk (fun i => f (i + at_)) (n - at_) : Nat)), some (.ref μ.length), some (nD at_), x3, x4] ∧ ν = μ ++ [.lst ((runs f at_).map prD)])
    (fun ρ ν => ∃ x0 at_ x3 x4, ρ = [x0, some (.ref μ.length), some (nD at_), x3, x4] ∧ ν = μ ++ [.lst ((runs f at_).map prD)] ∧ runs f at_ = runs f n)
    (by
      rintro m ρ ν ⟨at_, x3, x4, hm, h1, h2, h3, rfl, rfl⟩
      by_cases z : mk (fun i => f (i + at_)) (n - at_) = 0
      · refine .inl ⟨?_, _, at_, x3, x4, rfl, rfl, ?_⟩
        · refine (tv_int (ev_var (d := .int (mk (fun i => f (i + at_)) (n - at_) : Nat)) rfl)).trans ?_
          rw [z]; rfl
        · obtain ⟨b, rfl⟩ : ∃ b, n = at_ + b := ⟨n - at_, by omega⟩
          refine (runs_skip fun i q1 q2 => ?_).symm
          have := mk_zero z (i - at_) (by omega)
          rw [show i - at_ + at_ = i by omega] at this
          exact this
      · refine .inr ⟨?_, ?_⟩
        · refine (tv_int (ev_var (d := .int (mk (fun i => f (i + at_)) (n - at_) : Nat)) rfl)).trans ?_
          have : (((mk (fun i => f (i + at_)) (n - at_) : Nat) : Int) != 0) = true := by simpa using z
          rw [this]
        · obtain ⟨at', x3', x4', q1, q2, q3, q4, q5⟩ := spans_turn (k := k) (μ := μ) (x3 := x3) (x4 := x4) hn h1 h2 h3 z
          exact ⟨_, _, n - at', q1, by omega, at', x3', x4', rfl, q3, .inr q4, q5, rfl, rfl⟩)
    100000 n (ρ := [some (.int (mk f n : Nat)), some (.ref μ.length), some (nD 0), none, none]) (μ := μ ++ [.lst []]) (by omega) ⟨0, none, none, rfl, Nat.zero_le _, .inl rfl, Nat.le_refl _, rfl, rfl⟩
  subst h1 h2
  rw [h3] at e
  refine call_one c_mask_spans hμ (by simp only [pureD, pure_prD]) ?_ (m := .lst ((runs f n).map prD))
  refine run_nx (st_new ev_lst0) (run_nx (st_set ev_cst) (run_nx (st_whl e) (run_rt (st_ret (ev_bif1 (ev_var rfl) (tuple_ref snoc_get))))))
theorem cbody_if {Γ : G} {own : List Nat} {i : Nat} {t : T} {e : E} {ρ : Rho} {d y : D} {μ : Mu} {v : Bool} (ht : evalT Γ t ((wipeR ρ own).set i (some d)) μ = .ok v μ) (h : evalE Γ e ((wipeR ρ own).set i (some d)) μ = .ok y μ) : cbody Γ own (.nm i) t e ρ d μ = .ok (if v then some y else none) μ := by
  unfold cbody
  simp only [assignT, ht, bind_ok]
  cases v
  · rfl
  · rw [if_pos rfl, h, bind_ok]; rfl
theorem comp_filter {f : D → Mu → Res (Option D)} {α : Type} {a : α → D} {c : α → Bool} {g : α → D} {μ : Mu} : ∀ {ds : List α} {acc : List D}, (∀ d ∈ ds, f (a d) μ = .ok (if c d then some (g d) else none) μ) → acc.length + ds.length ≤ 16777216 →
    compLoop f (chkOf none) acc (ds.map a) μ = .ok (acc ++ (ds.filter c).map g) μ
  | [], acc, _, _ => by
    unfold compLoop
    rw [List.map_nil]
    simp only
    rw [if_pos (show chkOf none μ = true from rfl), List.filter_nil, List.map_nil, List.append_nil]
  | d :: ds, acc, h, hl => by
    rw [List.length_cons] at hl
    rw [List.map_cons]
    unfold compLoop
    rw [if_pos (show chkOf none μ = true from rfl), h d (List.mem_cons_self ..), List.filter_cons]
    cases hc : c d with
    | false =>
      simp only [Bool.false_eq_true, if_false]
      exact comp_filter (fun e he => h e (List.mem_cons_of_mem _ he)) (by omega)
    | true =>
      simp only [if_true]
      rw [needs_pos (by omega), comp_filter (fun e he => h e (List.mem_cons_of_mem _ he)) (by simp; omega)]
      simp
theorem rng0 (n : Nat) : rngD 0 n = (List.range n).map nD := by
  unfold rngD nD
  exact List.map_congr_left fun i _ => by rw [Int.zero_add]
theorem rngN (lo n : Nat) : rngD (lo : Int) n = (List.range' lo n).map nD := by
  unfold rngD nD
  rw [List.range'_eq_map_range, List.map_map]
  exact List.map_congr_left fun i _ => by
    show D.int ((lo : Int) + (i : Int)) = D.int ((lo + i : Nat) : Int)
    rw [Int.natCast_add]
theorem ev_comp {Γ : G} {own : List Nat} {tg : Tg} {it : IT} {c : T} {e : E} {ρ : Rho} {μ μ1 μ2 : Mu} {ds l : List D} (h : evalIt Γ it ρ μ = .ok (ds, none) μ1) (h2 : compLoop (cbody Γ own tg c e ρ) (chkOf none) [] ds μ1 = .ok l μ2) : evalE Γ (.comp own tg it c e) ρ μ = .ok (.lst l) μ2 := comp_run h h2
theorem band1 {x : Nat} {μ : Mu} : binD .band (.int (x : Int)) (.int 1) μ = .ok (.int ((x % 2 ^ 1 : Nat) : Int)) μ := by
  show Res.ok (D.int _) μ = _
  exact congrArg (fun i => Res.ok (D.int i) μ) (@i_mod x 1)
theorem mask_low {k s n : Nat} {f : Nat → Bool} {ρ : Rho} {μ : Mu} {i j : Nat} (hs : s ≤ n) (hs2 : s ≤ 1000) (hi : ρ[i]? = some (some (.int (mk f n : Nat)))) (hj : ρ[j]? = some (some (nD s))) :
    evalE (gg k) (.bin .band (.var i) (.bin .sub (.bin .shl (.cst (.int 1)) (.var j)) (.cst (.int 1)))) ρ μ = .ok (.int (mk f s : Nat)) μ := by
  refine ev_bin (ev_var hi) (ev_bin (ev_bin ev_cst (ev_var hj) (shl1 hs2)) ev_cst rfl) ?_
  refine band_low.trans ?_
  rw [mk_mod' f hs]
theorem mask_set {k : Nat} {f : Nat → Bool} {b P p s : Nat} (h : Rp f b P p s) {μ : Mu} (hμ : PureM μ) : (gg (k + 3)).call n_mask_set [.int (mk f 300 : Nat)] μ = .ok (theSet f p s) μ := by
  have hp := h.le
  have hs := h.sle
  have t1 : binD .shr (.int (mk f 300 : Nat)) (.int 200) μ = .ok (.int (mk (fun n => f (n + 200)) 100 : Nat)) μ := by
    have := shr_ok (x := mk f 300) (n := 200) (μ := μ)
    rw [mk_div' f (show 200 ≤ 300 by decide)] at this
    exact this
  let h' : Nat → Bool := fun n => f n ^^ (decide (n < 300 - p) && f (n + p))
  obtain ⟨s', q1, q2, q3, q4⟩ := mk_len h' 200
  have es : s' = s := by
    refine LS.uniq (f := f) (p := p) ⟨fun n hn => ?_, ?_⟩ h.ls
    · rcases Nat.lt_or_ge n 200 with z | z
      · have : (f n ^^ (decide (n < 300 - p) && f (n + p))) = false := q3 n hn z
        rw [decide_eq_true (by omega), Bool.true_and] at this
        revert this
        cases f n <;> cases f (n + p) <;> simp
      · exact h.lp.per n (by have := h.hb; omega)
    · rcases q4 with z | z
      · exact .inl z
      · rcases Nat.eq_zero_or_pos s' with w | w
        · exact .inl w
        · refine .inr fun e => ?_
          have : (f (s' - 1) ^^ (decide (s' - 1 < 300 - p) && f (s' - 1 + p))) = true := z
          rw [e, decide_eq_true (by omega), Bool.true_and] at this
          simp at this
  subst es
  have t2 : evalE (gg (k + 2)) (.bin .band (.bin .bxor (.var 0) (.bin .shr (.var 0) (.var 1))) (.bin .sub (.bin .shl (.cst (.int 1)) (.glob 0)) (.cst (.int 1)))) [some (.int (mk f 300 : Nat)), some (nD p), none, none, none, none, none] μ = .ok (.int (mk h' 200 : Nat)) μ := by
    refine ev_bin (μ1 := μ) (μ2 := μ) (x := .int (mk h' 300 : Nat)) (y := .int ((2 ^ 200 : Nat) - 1 : Int)) (ev_bin (ev_var rfl) (ev_bin (ev_var rfl) (ev_var rfl) (r := .ok (.int (mk (fun n => decide (n < 300 - p) && f (n + p)) 300 : Nat)) μ) ?_) bxor_mk) (ev_bin (ev_bin ev_cst (ev_glob con0) (shl1 (n := 200) (by decide))) ev_cst rfl) ?_
    · refine shr_ok.trans ?_
      rw [mk_div' f (by omega), mk_ext' _ (Nat.sub_le 300 p)]
    · refine band_low.trans ?_
      rw [mk_mod' h' (by decide)]
  have t3 := ev_bits (μ1 := μ) (ev_var (Γ := gg (k + 2)) (i := 2) (ρ := [some (.int (mk f 300 : Nat)), some (nD p), some (.int (mk h' 200 : Nat)), none, none, none, none]) (μ := μ) (d := .int (mk h' 200 : Nat)) rfl)
  rw [q2] at t3
  have t5 : evalE (gg (k + 2)) (.bif .tuple (.cons (.comp [6] (.nm 6) (.rng1 (.var 1)) (.val (.bin .band (.bin .shr (.var 4) (.var 6)) (.cst (.int 1)))) (.var 6)) .nil)) [some (.int (mk f 300 : Nat)), some (nD p), some (.int (mk h' 200 : Nat)), some (nD s'), some (.int (mk (fun n => f (n + 200)) 100 : Nat)), none, none] μ = .ok (.tup ((rests f p).map nD)) μ := by
    refine ev_bif1 (ev_comp (it_rng1 (n := p) (ev_var rfl) rfl (by omega)) ?_) tuple_lst
    rw [rng0]
    refine comp_filter (c := fun r => f (200 + r)) (g := nD) (fun r hr => ?_) (by simp; omega)
    have hr' : r < p := List.mem_range.mp hr
    refine cbody_if ?_ (ev_var rfl)
    refine (tv_int (ev_bin (ev_bin (ev_var rfl) (ev_var rfl) shr_ok) ev_cst band1)).trans ?_
    have e1 : mk (fun n => f (n + 200)) 100 / 2 ^ r % 2 ^ 1 = if f (200 + r) then 1 else 0 := by
      rw [mk_div' _ (show r ≤ 100 by omega), mk_mod' _ (show 1 ≤ 100 - r by omega)]
      simp only [mk, Nat.zero_add, Nat.add_comm r 200, Nat.pow_zero]
    rw [e1]
    cases f (200 + r) <;> rfl
  refine call_of c_mask_set rfl ?_
  refine run_nx (st_set (ev_call1 (ev_bin (ev_var rfl) (ev_glob con0) t1) (least_period (k := k + 1) h))) ?_
  refine run_nx (st_set t2) (run_nx (st_set t3) (run_nx (st_set (ev_bin (ev_var rfl) (ev_glob con0) t1)) (run_nx (st_set t5) (run_rt (st_ret ?_)))))
  refine ev_tup4 ev_cst (ev_tup2 (ev_call1 (mask_low (s := s') (n := 300) (by omega) (by omega) rfl rfl) (mask_spans (k := k) (by omega) hμ)) (ev_var rfl)) (ev_var rfl) (ev_var rfl)
end PyI.K01
/-! Q7: the mask of a set; union, both, without. -/
namespace PyI.K01
open PySem L2 PyProof.Rows
theorem st_tp2 {Γ : G} {ρ : Rho} {μ μ1 : Mu} {i j : Nat} {e : E} {a b : D} (h : evalE Γ e ρ μ = .ok (.tup [a, b]) μ1) : runS Γ (.set (.tp [i, j]) e) ρ μ = .nx ((ρ.set i (some a)).set j (some b)) μ1 := by
  rw [runS, h, then_ok, assignT]
  rfl
theorem fbody_tp2 {Γ : G} {i j : Nat} {b : B} {x y : D} {ρ : Rho} {μ : Mu} : fbody Γ (.tp [i, j]) b (.tup [x, y]) ρ μ = runB Γ b ((ρ.set i (some x)).set j (some y)) μ := rfl
theorem mk_one {r : Nat} : ∀ {n : Nat}, r < n → mk (fun i => decide (i = r)) n = 2 ^ r := fun {n} h => by
  obtain ⟨b, rfl⟩ : ∃ b, n = (r + 1) + b := ⟨n - (r + 1), by omega⟩
  rw [mk_add, mk, mk_none (n := r) (fun i hi => decide_eq_false (by omega)), mk_none (n := b) (fun i hi => decide_eq_false (by omega)), decide_eq_true rfl]
  simp
theorem block_loop {k p : Nat} (hp : p ≤ 100) {x0 x1 x2 x5 x6 x7 : Option D} {μ : Mu} : ∀ (rs : List Nat), (∀ r ∈ rs, r < p) → ∀ (g : Nat → Bool) (o4 : Option D),
    ∃ o, forLoop (fbody (gg k) (.nm 4) (forB (nthS b_set_mask 2))) (chkOf none) (rs.map nD) [x0, x1, x2, some (.int (mk g p : Nat)), o4, x5, x6, x7] μ = .nx [x0, x1, x2, some (.int (mk (fun i => g i || decide (i ∈ rs)) p : Nat)), o, x5, x6, x7] μ
  | [], _, g, o4 => ⟨o4, by
    rw [mk_congr (f := fun i => g i || decide (i ∈ ([] : List Nat))) (g := g) fun i => by simp]
    exact for_nil⟩
  | r :: rs, h, g, o4 => by
    obtain ⟨o, e⟩ := block_loop hp rs (fun q hq => h q (List.mem_cons_of_mem _ hq)) (fun i => g i || decide (i = r)) (some (nD r))
    refine ⟨o, ?_⟩
    rw [mk_congr (f := fun i => g i || decide (i ∈ r :: rs)) (g := fun i => (g i || decide (i = r)) || decide (i ∈ rs)) fun i => by simp [Bool.or_assoc]]
    rw [List.map_cons]
    refine for_cons_nx ?_ e
    rw [fbody_nm]
    have hr := h r (List.mem_cons_self ..)
    have e1 : binD .shl (.int 1) (nD r) μ = .ok (.int (mk (fun i => decide (i = r)) p : Nat)) μ := by
      rw [mk_one hr]; exact shl1 (by omega)
    exact run_nx (st_set (ev_bin (ev_var rfl) (ev_bin ev_cst (ev_var rfl) e1) bor_mk)) run_nil
theorem spans_loop {k : Nat} {x0 x1 x2 x3 x4 : Option D} {μ : Mu} : ∀ (l : List (Nat × Nat)), (∀ r ∈ l, r.1 ≤ r.2 ∧ r.2 < 300) → ∀ (g : Nat → Bool) (o6 o7 : Option D),
    ∃ a b, forLoop (fbody (gg (k + 1)) (.tp [6, 7]) (forB (nthS b_set_mask 4))) (chkOf none) (l.map prD) [x0, x1, x2, x3, x4, some (.int (mk g 300 : Nat)), o6, o7] μ = .nx [x0, x1, x2, x3, x4, some (.int (mk (fun i => g i || l.any fun r => sp r.1 r.2 i) 300 : Nat)), a, b] μ
  | [], _, g, o6, o7 => ⟨o6, o7, by
    rw [mk_congr (f := fun i => g i || ([] : List (Nat × Nat)).any fun r => sp r.1 r.2 i) (g := g) fun i => by simp]
    exact for_nil⟩
  | r :: l, h, g, o6, o7 => by
    obtain ⟨a, b, e⟩ := spans_loop l (fun q hq => h q (List.mem_cons_of_mem _ hq)) (fun i => g i || sp r.1 r.2 i) (some (nD r.1)) (some (nD r.2))
    refine ⟨a, b, ?_⟩
    rw [mk_congr (f := fun i => g i || (r :: l).any fun r => sp r.1 r.2 i) (g := fun i => (g i || sp r.1 r.2 i) || l.any fun r => sp r.1 r.2 i) fun i => by simp [Bool.or_assoc]]
    rw [List.map_cons]
    refine for_cons_nx ?_ e
    have hr := h r (List.mem_cons_self ..)
    unfold prD
    rw [fbody_tp2]
    exact run_nx (st_set (ev_bin (ev_var rfl) (ev_call2 (ev_var rfl) (ev_var rfl) (span_mask (k := k) (n := 300) (by omega) hr.2 (by omega))) bor_mk)) run_nil
theorem set_mask {k : Nat} {f : Nat → Bool} {b P p s : Nat} (h : Rp f b P p s) {μ : Mu} : (gg (k + 2)).call n_set_mask [theSet f p s] μ = .ok (.int (mk f 300 : Nat)) μ := by
  have hp := h.le
  have hs := h.sle
  obtain ⟨q, hq⟩ := h.dvd100
  have h300 : p * (3 * q) = 300 := by rw [Nat.mul_left_comm, ← hq]
  obtain ⟨o, e1⟩ := block_loop (k := k + 1) (p := p) hp (x0 := some (theSet f p s)) (x1 := some (.tup ((runs f s).map prD))) (x2 := some (nD s)) (x5 := none) (x6 := none) (x7 := none) (μ := μ) (rests f p) (fun r hr => (mem_rests.mp hr).1) (fun _ => false) none
  have z0 : mk (fun _ => false) p = 0 := mk_none fun _ _ => rfl
  rw [z0] at e1
  have r := runs_ok f s
  obtain ⟨a, b', e2⟩ := spans_loop (k := k) (x0 := some (theSet f p s)) (x1 := some (.tup ((runs f s).map prD))) (x2 := some (nD s)) (x3 := some (.int (mk (fun i => false || decide (i ∈ rests f p)) p : Nat))) (x4 := o) (μ := μ) (runs f s) (fun q hq => ⟨(r.ok q hq).1, by have := (r.ok q hq).2; omega⟩) (fun n => decide (s ≤ n) && (false || decide (n % p ∈ rests f p))) none none
  refine call_of c_set_mask rfl ?_
  refine run_nx (st_tp2 (ev_idx (ev_var rfl) ev_cst ix1)) ?_
  refine run_nx (st_set ev_cst) ?_
  refine run_nx (for_run' (it_tup (ev_idx (ev_var rfl) ev_cst ix3)) e1) ?_
  have l4 : mk (fun n => false || decide (n % p ∈ rests f p)) 300 / 2 ^ s < 2 ^ 300 := Nat.lt_of_le_of_lt (Nat.div_le_self _ _) (mk_lt _ 300)
  obtain ⟨m, hm⟩ : ∃ m, 300 = s + m := ⟨300 - s, by omega⟩
  have e3 : mk (fun n => false || decide (n % p ∈ rests f p)) 300 / 2 ^ s * 2 ^ s = mk (fun n => decide (s ≤ n) && (false || decide (n % p ∈ rests f p))) 300 := by
    rw [hm]; exact mk_shift _ s m
  have t := shl_ok (x := mk (fun n => false || decide (n % p ∈ rests f p)) 300 / 2 ^ s) (n := s) (μ := μ) (by omega) l4
  rw [e3] at t
  refine run_nx (st_set (ev_bin (ev_bin (ev_call2 (ev_var rfl) (ev_idx (ev_var rfl) ev_cst ix2) (repeated (k := k) h.lp.pos h300)) (ev_var rfl) shr_ok) (ev_var rfl) t)) ?_
  refine run_nx (for_run' (it_tup (ev_var rfl)) e2) (run_rt (st_ret ?_))
  have e4 : mk f 300 = mk (fun i => (decide (s ≤ i) && (false || decide (i % p ∈ rests f p))) || (runs f s).any fun r => sp r.1 r.2 i) 300 := mk_ext fun i _ => by
    rcases Nat.lt_or_ge i s with z | z
    · rw [decide_eq_false (by omega), Bool.false_and, Bool.false_or, Bool.eq_iff_iff, r.mem i z, List.any_eq_true]
      constructor
      · rintro ⟨r, hr, h1, h2⟩; exact ⟨r, hr, by show (decide (r.1 ≤ i) && decide (i ≤ r.2)) = true; rw [decide_eq_true h1, decide_eq_true h2]; rfl⟩
      · rintro ⟨r, hr, h1⟩
        have : (decide (r.1 ≤ i) && decide (i ≤ r.2)) = true := h1
        rw [Bool.and_eq_true] at this
        exact ⟨r, hr, of_decide_eq_true this.1, of_decide_eq_true this.2⟩
    · rw [decide_eq_true z, Bool.true_and, Bool.false_or, ← h.bit' z]
      have : ((runs f s).any fun r => sp r.1 r.2 i) = false := by
        rw [List.any_eq_false]
        intro q hq h1
        have h2 : (decide (q.1 ≤ i) && decide (i ≤ q.2)) = true := h1
        rw [Bool.and_eq_true] at h2
        have := (r.ok q hq).2
        have := of_decide_eq_true h2.2
        omega
      rw [this, Bool.or_false]
  rw [e4]
  exact ev_var rfl
theorem set_of {k : Nat} {c : Cd} (ok : okCd c) {b P p s : Nat} (h : Rp (hCd c) b P p s) {μ : Mu} (hμ : PureM μ) : (gg (k + 5)).call n_set_of [cdD c] μ = .ok (theSet (hCd c) p s) μ :=
  call_of c_set_of rfl (run_rt (st_ret (ev_call1 (ev_call1 (ev_var rfl) (condition_mask (k := k) ok)) (mask_set (k := k + 1) h hμ))))
section
variable {k : Nat} {f g : Nat → Bool} {b P p s b' P' p' s' b2 P2 p2 s2 : Nat} {μ : Mu}
theorem union_ok (h : Rp f b P p s) (h' : Rp g b' P' p' s') (h2 : Rp (fun n => f n || g n) b2 P2 p2 s2) (hμ : PureM μ) : (gg (k + 4)).call n_union [theSet f p s, theSet g p' s'] μ = .ok (theSet (fun n => f n || g n) p2 s2) μ :=
  call_of c_union rfl (run_rt (st_ret (ev_call1 (ev_bin (ev_call1 (ev_var rfl) (set_mask (k := k + 1) h)) (ev_call1 (ev_var rfl) (set_mask (k := k + 1) h')) bor_mk) (mask_set (k := k) h2 hμ))))
theorem both_ok (h : Rp f b P p s) (h' : Rp g b' P' p' s') (h2 : Rp (fun n => f n && g n) b2 P2 p2 s2) (hμ : PureM μ) : (gg (k + 4)).call n_both [theSet f p s, theSet g p' s'] μ = .ok (theSet (fun n => f n && g n) p2 s2) μ :=
  call_of c_both rfl (run_rt (st_ret (ev_call1 (ev_bin (ev_call1 (ev_var rfl) (set_mask (k := k + 1) h)) (ev_call1 (ev_var rfl) (set_mask (k := k + 1) h')) band_mk) (mask_set (k := k) h2 hμ))))
theorem without_ok (h : Rp f b P p s) (h' : Rp g b' P' p' s') (h2 : Rp (fun n => f n && !g n) b2 P2 p2 s2) (hμ : PureM μ) : (gg (k + 4)).call n_without [theSet f p s, theSet g p' s'] μ = .ok (theSet (fun n => f n && !g n) p2 s2) μ := by
  refine call_of c_without rfl (run_rt (st_ret (ev_call1 (ev_bin (μ1 := μ) (μ2 := μ) (x := .int (mk f 300 : Nat)) (y := .int (Builtin.bitNot (mk g 300 : Nat))) (ev_call1 (ev_var rfl) (set_mask (k := k + 1) h)) ?_ (r := .ok (.int (mk (fun n => f n && !g n) 300 : Nat)) μ) ?_) (mask_set (k := k) h2 hμ))))
  · rw [evalE, ev_call1 (ev_var rfl) (set_mask (k := k + 1) h'), bind_ok]
  · show Res.ok (D.int _) μ = _
    rw [i_without]
end
end PyI.K01
/-! Q8: is_in, size, least. -/
namespace PyI.K01
open PySem L2 PyProof.Rows
theorem comp_all {f : D → Mu → Res (Option D)} {α : Type} {a : α → D} {g : α → D} {μ : Mu} {ds : List α} (h : ∀ d ∈ ds, f (a d) μ = .ok (some (g d)) μ) (hl : ds.length ≤ 16777216) : compLoop f (chkOf none) [] (ds.map a) μ = .ok (ds.map g) μ := by
  have := comp_filter (f := f) (a := a) (c := fun _ => true) (g := g) (μ := μ) (ds := ds) (acc := []) (fun d hd => by rw [h d hd]; rfl) (by simpa using hl)
  rw [this, List.nil_append, List.filter_eq_self.mpr fun _ _ => rfl]
theorem cbody_tp2 {Γ : G} {own : List Nat} {i j : Nat} {e : E} {ρ : Rho} {x y z : D} {μ : Mu} (h : evalE Γ e (((wipeR ρ own).set i (some x)).set j (some y)) μ = .ok z μ) : cbody Γ own (.tp [i, j]) .yes e ρ (.tup [x, y]) μ = .ok (some z) μ := by
  have : assignT (.tp [i, j]) (.tup [x, y]) (wipeR ρ own) = some (((wipeR ρ own).set i (some x)).set j (some y)) := rfl
  unfold cbody
  simp only [this, evalT, bind_ok, if_true, h]
theorem ev_chn_le {Γ : G} {ρ : Rho} {μ μ1 μ2 : Mu} {a b c : E} {i j l : Int} (ha : evalE Γ a ρ μ = .ok (.int i) μ1) (hb : evalE Γ b ρ μ1 = .ok (.int j) μ2) (hc : evalE Γ c ρ μ2 = .ok (.int l) μ2) : evalE Γ (.chn .le .le a b c) ρ μ = .ok (.bl (decide (i ≤ j) && decide (j ≤ l))) μ2 := by
  have e : ∀ {i j : Int} {μ : Mu}, cmpD .le (.int i) (.int j) μ = .ok (decide (i ≤ j)) μ := rfl
  rw [evalE, ha, bind_ok, hb, bind_ok, e, bind_ok]
  cases decide (i ≤ j) with
  | false => rfl
  | true => rw [if_pos rfl, hc, bind_ok, e, bind_ok]; rfl
theorem bools_map : ∀ l : List Bool, boolsOf (l.map D.bl) = some l
  | [] => rfl
  | b :: l => by rw [List.map_cons, boolsOf, bools_map l]; rfl
theorem ints_map : ∀ l : List Int, intsOf (l.map D.int) = some l
  | [] => rfl
  | b :: l => by rw [List.map_cons, intsOf, ints_map l]; rfl
theorem any_lst {l : List Bool} {μ : Mu} : bifD .any [.lst (l.map D.bl)] μ = .ok (.bl (l.any id)) μ := by
  show (match (lstD μ (.lst (l.map D.bl))).bind boolsOf with
    | some l => Res.ok (D.bl (l.any id)) μ
    | none => .stuck) = _
  have : (lstD μ (.lst (l.map D.bl))).bind boolsOf = some l := bools_map l
  rw [this]
theorem sum_lst {l : List Int} {μ : Mu} : bifD .sum [.lst (l.map D.int)] μ = .ok (.int l.sum) μ := by
  show (match (lstD μ (.lst (l.map D.int))).bind intsOf with
    | some l => Res.ok (D.int l.sum) μ
    | none => .stuck) = _
  have : (lstD μ (.lst (l.map D.int))).bind intsOf = some l := ints_map l
  rw [this]
theorem mod_nat {m p : Nat} {μ : Mu} (hp : 0 < p) : binD .mod (nD m) (nD p) μ = .ok (nD (m % p)) μ := by
  show needs (0 < (p : Int)) _ = _
  rw [needs_pos (show 0 < (p : Int) by omega)]
  show Res.ok (D.int ((m : Int) % (p : Int))) μ = Res.ok (D.int ((m % p : Nat) : Int)) μ
  rw [Int.natCast_emod]
theorem int_int {i : Int} {μ : Mu} : bifD .int [.int i] μ = .ok (.int i) μ := rfl
theorem in_nat {m : Nat} {rs : List Nat} {μ : Mu} : cmpD .in_ (nD m) (.tup (rs.map nD)) μ = .ok (decide (m ∈ rs)) μ := by
  show needs (flatD (nD m) = true ∧ (rs.map nD).all flatD = true) (.ok ((rs.map nD).any fun y => eqD y (nD m)) μ) = _
  rw [needs_pos ⟨rfl, by rw [List.all_eq_true]; intro x hx; obtain ⟨r, _, rfl⟩ := List.mem_map.mp hx; rfl⟩]
  congr 1
  rw [Bool.eq_iff_iff, List.any_eq_true, decide_eq_true_eq]
  constructor
  · rintro ⟨x, hx, h⟩
    obtain ⟨r, hr, rfl⟩ := List.mem_map.mp hx
    have : ((r : Int) == (m : Int)) = true := h
    rw [beq_iff_eq] at this
    rw [show m = r by omega]; exact hr
  · intro h
    exact ⟨nD m, List.mem_map_of_mem h, by show ((m : Int) == (m : Int)) = true; exact beq_self_eq_true _⟩
theorem ge_nat {m n : Nat} {μ : Mu} : cmpD .ge (nD m) (nD n) μ = .ok (decide (n ≤ m)) μ := by
  show Res.ok (decide ((n : Int) ≤ (m : Int))) μ = _
  rw [decide_eq_decide.mpr Int.ofNat_le]
theorem le_nat {m n : Nat} {μ : Mu} : cmpD .le (nD m) (nD n) μ = .ok (decide (m ≤ n)) μ := by
  show Res.ok (decide ((m : Int) ≤ (n : Int))) μ = _
  rw [decide_eq_decide.mpr Int.ofNat_le]
section
variable {k : Nat} {f : Nat → Bool} {b P p s : Nat} {μ : Mu}
theorem runs_any (h : Rp f b P p s) {n : Nat} (hn : n < s) : ((runs f s).any fun r => decide (r.1 ≤ n) && decide (n ≤ r.2)) = f n := by
  rw [Bool.eq_iff_iff, (runs_ok f s).mem n hn, List.any_eq_true]
  constructor
  · rintro ⟨r, hr, h1⟩
    rw [Bool.and_eq_true] at h1
    exact ⟨r, hr, of_decide_eq_true h1.1, of_decide_eq_true h1.2⟩
  · rintro ⟨r, hr, h1, h2⟩
    exact ⟨r, hr, by rw [decide_eq_true h1, decide_eq_true h2]; rfl⟩
theorem runs_len (f : Nat → Bool) : ∀ n, (runs f n).length ≤ n
  | 0 => Nat.le_refl _
  | n + 1 => by
    have := runs_len f n
    rw [runs]
    split
    · split
      · rw [List.length_append, List.length_singleton]; omega
      · rename_i h1 h2
        rw [List.length_append, List.length_singleton, List.length_dropLast]
        have : n ≠ 0 := fun e => h2 (.inl e)
        omega
    · omega
theorem is_in_ok (h : Rp f b P p s) {n : Nat} : (gg (k + 1)).call n_is_in [theSet f p s, nD n] μ = .ok (.bl (f n)) μ := by
  refine call_of c_is_in rfl ?_
  refine run_nx (st_tp2 (ev_idx (ev_var rfl) ev_cst ix1)) ?_
  by_cases z : s ≤ n
  · refine run_rt (ifs_true (tv_bl (ev_cmp (ev_var rfl) (ev_var rfl) (ge_nat.trans (by rw [decide_eq_true z])))) (run_rt (st_ret ?_)))
    rw [h.bit' z]
    exact ev_cmp (ev_bin (ev_bif1 (ev_var rfl) int_int) (ev_idx (ev_var rfl) ev_cst ix2) (mod_nat h.lp.pos)) (ev_idx (ev_var rfl) ev_cst ix3) in_nat
  · refine run_nx (ifs_false (tv_bl (ev_cmp (ev_var rfl) (ev_var rfl) (ge_nat.trans (by rw [decide_eq_false z])))) run_nil) (run_rt (st_ret ?_))
    rw [← runs_any h (by omega)]
    have hl := runs_len f s
    have hs := h.sle
    refine (ev_bif1 (ev_comp (it_tup (ev_var rfl)) (comp_all (g := fun r : Nat × Nat => D.bl (decide (r.1 ≤ n) && decide (n ≤ r.2))) (fun r hr => ?_) (by omega))) (r := .ok (.bl (((runs f s).map fun r : Nat × Nat => (decide (r.1 ≤ n) && decide (n ≤ r.2))).any id)) μ) ?_).trans ?_
    · refine cbody_tp2 ((ev_chn_le (i := (r.1 : Int)) (j := (n : Int)) (l := (r.2 : Int)) (ev_var rfl) (ev_var rfl) (ev_var rfl)).trans ?_)
      rw [decide_eq_decide.mpr (Int.ofNat_le (m := r.1) (n := n)), decide_eq_decide.mpr (Int.ofNat_le (m := n) (n := r.2))]
    · have := any_lst (l := (runs f s).map fun r : Nat × Nat => (decide (r.1 ≤ n) && decide (n ≤ r.2))) (μ := μ)
      rw [List.map_map] at this
      exact this
    · rw [List.any_map]; rfl
theorem sum_cast : ∀ (l : List (Nat × Nat)), (∀ r ∈ l, r.1 ≤ r.2) → (l.map fun r => (r.2 : Int) - (r.1 : Int) + 1).sum = ((l.map fun r => r.2 + 1 - r.1).sum : Nat)
  | [], _ => rfl
  | r :: l, h => by
    have := h r (List.mem_cons_self ..)
    rw [List.map_cons, List.map_cons, List.sum_cons, List.sum_cons, sum_cast l fun q hq => h q (List.mem_cons_of_mem _ hq)]
    omega
theorem size_ok (h : Rp f b P p s) : (gg (k + 1)).call n_size [theSet f p s] μ = .ok (if rests f p = [] then nD ((List.range s).filter f).length else .non) μ := by
  refine call_of c_size rfl ?_
  have tr : evalT (gg k) (.val (.idx (.var 0) (.cst (.int 3)))) (startR f_size.N.length [theSet f p s]) μ = .ok (!((rests f p).map nD).isEmpty) μ := by
    rw [evalT, ev_idx (ev_var rfl) ev_cst ix3, bind_ok, truD]
  by_cases z : rests f p = []
  · rw [if_pos z]
    rw [z] at tr
    refine run_nx (ifs_false tr run_nil) (run_rt (st_ret ?_))
    have hl := runs_len f s
    have hs := h.sle
    refine (ev_bif1 (ev_comp (it_tup (ev_idx (ev_idx (ev_var rfl) ev_cst ix1) ev_cst ix0)) (comp_all (g := fun r : Nat × Nat => D.int ((r.2 : Int) - (r.1 : Int) + 1)) (fun r hr => ?_) (by omega))) (r := .ok (.int (((runs f s).map fun r : Nat × Nat => ((r.2 : Int) - (r.1 : Int) + 1)).sum)) μ) ?_).trans ?_
    · exact cbody_tp2 (ev_bin (ev_bin (ev_var rfl) (ev_var rfl) rfl) ev_cst rfl)
    · have := sum_lst (l := (runs f s).map fun r : Nat × Nat => ((r.2 : Int) - (r.1 : Int) + 1)) (μ := μ)
      rw [List.map_map] at this
      exact this
    · rw [sum_cast _ fun r hr => ((runs_ok f s).ok r hr).1, runs_size]
      rfl
  · rw [if_neg z]
    have : ((rests f p).map nD).isEmpty = false := by
      rw [List.isEmpty_eq_false_iff]
      exact fun e => z (List.map_eq_nil_iff.mp e)
    rw [this] at tr
    exact run_rt (ifs_true tr (run_rt (st_ret ev_cst)))
/-- d tells the least member from n on -/
def IsL (f : Nat → Bool) (n : Nat) (d : D) : Prop := (∃ m, d = nD m ∧ n ≤ m ∧ f m = true ∧ ∀ i, n ≤ i → i < m → f i = false) ∨ (d = .non ∧ ∀ i, n ≤ i → f i = false)
theorem IsL.uniq {n : Nat} {d d' : D} (h : IsL f n d) (h' : IsL f n d') : d = d' := by
  rcases h with ⟨m, rfl, h1, h2, h3⟩ | ⟨rfl, h1⟩
  · rcases h' with ⟨m', rfl, k1, k2, k3⟩ | ⟨rfl, k1⟩
    · rcases Nat.lt_trichotomy m m' with q | q | q
      · rw [k3 m h1 q] at h2; cases h2
      · rw [q]
      · rw [h3 m' k1 q] at k2; cases k2
    · rw [k1 m h1] at h2; cases h2
  · rcases h' with ⟨m', rfl, k1, k2, k3⟩ | ⟨rfl, k1⟩
    · rw [h1 m' k1] at k2; cases k2
    · rfl
theorem least_loop {n : Nat} {x0 x2 x3 x6 x7 x8 x9 : Option D} : ∀ (l : List (Nat × Nat)) (o4 o5 : Option D),
    (∃ pre r post, l = pre ++ r :: post ∧ (∀ q ∈ pre, q.2 < n) ∧ n ≤ r.2 ∧ forLoop (fbody (gg k) (.tp [4, 5]) (forB (nthS b_least 1))) (chkOf none) (l.map prD) [x0, some (nD n), x2, x3, o4, o5, x6, x7, x8, x9] μ = .rt (nD (max r.1 n)) μ) ∨
    ((∀ q ∈ l, q.2 < n) ∧ ∃ a c, forLoop (fbody (gg k) (.tp [4, 5]) (forB (nthS b_least 1))) (chkOf none) (l.map prD) [x0, some (nD n), x2, x3, o4, o5, x6, x7, x8, x9] μ = .nx [x0, some (nD n), x2, x3, a, c, x6, x7, x8, x9] μ)
  | [], o4, o5 => .inr ⟨(fun q hq => nomatch hq), o4, o5, for_nil⟩
  | r :: l, o4, o5 => by
    by_cases z : n ≤ r.2
    · refine .inl ⟨[], r, l, rfl, (fun q hq => nomatch hq), z, ?_⟩
      rw [List.map_cons]
      refine for_cons_rt ?_
      unfold prD
      rw [fbody_tp2]
      refine run_rt (ifs_true (tv_bl (ev_cmp (ev_var rfl) (ev_var rfl) (le_nat.trans (by rw [decide_eq_true z])))) (run_rt (st_ret (ev_bif2 (ev_var rfl) (ev_var rfl) ?_))))
      show Res.ok (D.int (if (n : Int) > (r.1 : Int) then (n : Int) else (r.1 : Int))) μ = _
      unfold nD
      congr 2
      split <;> omega
    · have step : fbody (gg k) (.tp [4, 5]) (forB (nthS b_least 1)) (prD r) [x0, some (nD n), x2, x3, o4, o5, x6, x7, x8, x9] μ = .nx [x0, some (nD n), x2, x3, some (nD r.1), some (nD r.2), x6, x7, x8, x9] μ := by
        unfold prD
        rw [fbody_tp2]
        exact run_nx (ifs_false (tv_bl (ev_cmp (ev_var rfl) (ev_var rfl) (le_nat.trans (by rw [decide_eq_false z])))) run_nil) run_nil
      rcases least_loop l (some (nD r.1)) (some (nD r.2)) with ⟨pre, q, post, h1, h2, h3, h4⟩ | ⟨h1, a, c, h2⟩
      · refine .inl ⟨r :: pre, q, post, by rw [h1]; rfl, fun t ht => ?_, h3, ?_⟩
        · rcases List.mem_cons.mp ht with e | e
          · rw [e]; omega
          · exact h2 t e
        · rw [List.map_cons]; exact for_cons_nx step h4
      · refine .inr ⟨fun t ht => ?_, a, c, ?_⟩
        · rcases List.mem_cons.mp ht with e | e
          · rw [e]; omega
          · exact h1 t e
        · rw [List.map_cons]; exact for_cons_nx step h2
theorem rests_up (f : Nat → Bool) (p : Nat) : (rests f p).Pairwise (· < ·) := List.Pairwise.filter _ List.pairwise_lt_range
end
end PyI.K01
/-! Q9: least. -/
namespace PyI.K01
open PySem L2 PyProof.Rows
section
variable {k : Nat} {f : Nat → Bool} {b P p s : Nat} {μ : Mu}
theorem least_run {n : Nat} {pre post : List (Nat × Nat)} {r : Nat × Nat} (e : runs f s = pre ++ r :: post) (h1 : ∀ q ∈ pre, q.2 < n) (h2 : n ≤ r.2) : IsL f n (nD (max r.1 n)) := by
  have ok := runs_ok f s
  have o := ok.ok
  have u := ok.up
  rw [e] at o u
  have or' := o r (List.mem_append_right _ (List.mem_cons_self ..))
  rw [List.pairwise_append, List.pairwise_cons] at u
  refine .inl ⟨max r.1 n, rfl, Nat.le_max_right _ _, ?_, fun i q1 q2 => ?_⟩
  · refine (ok.mem (max r.1 n) (by omega)).mpr ⟨r, by rw [e]; exact List.mem_append_right _ (List.mem_cons_self ..), Nat.le_max_left _ _, by omega⟩
  · cases hf : f i with
    | false => rfl
    | true =>
      obtain ⟨q, hq, h3, h4⟩ := (ok.mem i (by omega)).mp hf
      rw [e] at hq
      rcases List.mem_append.mp hq with w | w
      · have := h1 q w; omega
      · rcases List.mem_cons.mp w with w | w
        · rw [w] at h3; omega
        · have := u.2.1.1 q w; omega
theorem none_below {n : Nat} (h1 : ∀ q ∈ runs f s, q.2 < n) {i : Nat} (hi : n ≤ i) (hs : i < s) : f i = false := by
  cases hf : f i with
  | false => rfl
  | true =>
    obtain ⟨q, hq, h3, h4⟩ := ((runs_ok f s).mem i hs).mp hf
    have := h1 q hq
    omega
theorem max_nat {m n : Nat} {μ : Mu} : bifD .max [nD m, nD n] μ = .ok (nD (max m n)) μ := by
  show Res.ok (D.int (if (n : Int) > (m : Int) then (n : Int) else (m : Int))) μ = _
  unfold nD
  congr 2
  split <;> omega
theorem sub_nat {m n : Nat} {μ : Mu} (h : n ≤ m) : binD .sub (nD m) (nD n) μ = .ok (nD (m - n)) μ := by
  show Res.ok (D.int ((m : Int) - (n : Int))) μ = _
  rw [show (m : Int) - (n : Int) = ((m - n : Nat) : Int) by omega]
  rfl
theorem add_nat {m n : Nat} {μ : Mu} : binD .add (nD m) (nD n) μ = .ok (nD (m + n)) μ := by
  show Res.ok (D.int ((m : Int) + (n : Int))) μ = _
  rw [← Int.natCast_add]
  rfl
theorem tv_lst {Γ : G} {ρ : Rho} {μ μ1 : Mu} {e : E} {l : List D} (h : evalE Γ e ρ μ = .ok (.lst l) μ1) : evalT Γ (.val e) ρ μ = .ok (!l.isEmpty) μ1 := by
  rw [evalT, h, bind_ok, truD]
theorem tv_tup {Γ : G} {ρ : Rho} {μ μ1 : Mu} {e : E} {l : List D} (h : evalE Γ e ρ μ = .ok (.tup l) μ1) : evalT Γ (.val e) ρ μ = .ok (!l.isEmpty) μ1 := by
  rw [evalT, h, bind_ok, truD]
theorem off_mod {low p j : Nat} (hp : 0 < p) (hj : low % p + j < p) : (low + j) % p = low % p + j := by
  have := Nat.div_add_mod low p
  rw [show low + j = (low % p + j) + p * (low / p) by omega, Nat.add_mul_mod_self_left, Nat.mod_eq_of_lt hj]
theorem off_mod2 {low p j : Nat} (hp : 0 < p) (h1 : p ≤ low % p + j) (h2 : low % p + j < 2 * p) : (low + j) % p = low % p + j - p := by
  have := Nat.div_add_mod low p
  rw [show low + j = (low % p + j - p) + p * (low / p + 1) by rw [Nat.mul_add, Nat.mul_one]; omega, Nat.add_mul_mod_self_left, Nat.mod_eq_of_lt (by omega)]
theorem least_ok (h : Rp f b P p s) {n : Nat} : ∃ d, (gg (k + 1)).call n_least [theSet f p s, nD n] μ = .ok d μ ∧ IsL f n d := by
  have hp := h.lp.pos
  rcases least_loop (k := k) (μ := μ) (n := n) (x0 := some (theSet f p s)) (x2 := some (.tup ((runs f s).map prD))) (x3 := some (nD s)) (x6 := none) (x7 := none) (x8 := none) (x9 := none) (runs f s) none none with ⟨pre, r, post, h1, h2, h3, h4⟩ | ⟨h1, a, c, h2⟩
  · exact ⟨_, call_of c_least rfl (run_nx (st_tp2 (ev_idx (ev_var rfl) ev_cst ix1)) (run_rt (for_run' (it_tup (ev_var rfl)) h4))), least_run h1 h2 h3⟩
  · by_cases z : rests f p = []
    · refine ⟨.non, call_of c_least rfl (run_nx (st_tp2 (ev_idx (ev_var rfl) ev_cst ix1)) (run_nx (for_run' (it_tup (ev_var rfl)) h2) (run_rt (ifs_true (tv_not (tv_tup (ev_idx (ev_var rfl) ev_cst ix3)) |>.trans ?_) (run_rt (st_ret ev_cst)))))), .inr ⟨rfl, fun i hi => ?_⟩⟩
      · rw [z]; rfl
      · rcases Nat.lt_or_ge i s with w | w
        · exact none_below h1 hi w
        · rw [h.bit' w, z]; rfl
    · let low := max s n
      have hne : (!(!((rests f p).map nD).isEmpty)) = false := by
        have : ((rests f p).map nD).isEmpty = false := by
          rw [List.isEmpty_eq_false_iff]
          exact fun e => z (List.map_eq_nil_iff.mp e)
        rw [this]; rfl
      have hrl : (rests f p).length ≤ 100 := by
        have h1 : (rests f p).length ≤ (List.range p).length := List.length_filter_le ..
        rw [List.length_range] at h1
        have := h.le
        omega
      have later : evalE (gg k) (.comp [9] (.nm 9) (.seq (.idx (.var 0) (.cst (.int 3)))) (.val (.cmp .ge (.var 9) (.var 7))) (.var 9)) [some (theSet f p s), some (nD n), some (.tup ((runs f s).map prD)), some (nD s), a, c, some (nD low), some (nD (low % p)), none, none] μ = .ok (.lst (((rests f p).filter fun r => decide (low % p ≤ r)).map nD)) μ := by
        refine ev_comp (it_tup (ev_idx (ev_var rfl) ev_cst ix3)) (comp_filter (c := fun r => decide (low % p ≤ r)) (g := nD) (fun r hr => ?_) (by simp; omega))
        exact cbody_if (tv_bl (ev_cmp (ev_var rfl) (ev_var rfl) ge_nat)) (ev_var rfl)
      have before : ∀ {o : Out}, runB (gg k) (.cons (.ifs (.val (.var 8)) (.cons (.ret (.bin .add (.bin .sub (.var 6) (.var 7)) (.idx (.var 8) (.cst (.int 0))))) .nil) .nil)
          (.cons (.ret (.bin .add (.bin .add (.bin .sub (.var 6) (.var 7)) (.idx (.var 0) (.cst (.int 2)))) (.idx (.idx (.var 0) (.cst (.int 3))) (.cst (.int 0))))) .nil))
          [some (theSet f p s), some (nD n), some (.tup ((runs f s).map prD)), some (nD s), a, c, some (nD low), some (nD (low % p)), some (.lst (((rests f p).filter fun r => decide (low % p ≤ r)).map nD)), none] μ = o →
          runB (gg k) b_least (startR f_least.N.length [theSet f p s, nD n]) μ = o := fun e =>
        run_nx (st_tp2 (ev_idx (ev_var rfl) ev_cst ix1)) (run_nx (for_run' (it_tup (ev_var rfl)) h2) (run_nx (ifs_false ((tv_not (tv_tup (ev_idx (ev_var rfl) ev_cst ix3))).trans (by rw [hne])) run_nil)
          (run_nx (st_set (ev_bif2 (ev_var rfl) (ev_var rfl) max_nat)) (run_nx (st_set (ev_bin (ev_bif1 (ev_var rfl) int_int) (ev_idx (ev_var rfl) ev_cst ix2) (mod_nat hp))) (run_nx (st_set later) e)))))
      have hmod : low % p ≤ low := Nat.mod_le _ _
      have hlow : s ≤ low ∧ n ≤ low := ⟨Nat.le_max_left _ _, Nat.le_max_right _ _⟩
      have hlt := Nat.mod_lt low hp
      have lowbits : ∀ i, n ≤ i → i < low → f i = false := fun i h3 h4 => none_below h1 h3 (by
        rcases Nat.lt_or_ge i s with w | w
        · exact w
        · have : low ≤ i := Nat.max_le.mpr ⟨w, h3⟩
          omega)
      have up := rests_up f p
      cases hl : (rests f p).filter fun r => decide (low % p ≤ r) with
      | cons r0 l =>
        have m0 : r0 ∈ (rests f p).filter fun r => decide (low % p ≤ r) := by rw [hl]; exact List.mem_cons_self ..
        rw [List.mem_filter] at m0
        have m1 := of_decide_eq_true m0.2
        have m2 := mem_rests.mp m0.1
        have first : ∀ r ∈ rests f p, low % p ≤ r → r0 ≤ r := fun r hr hr2 => by
          have u := List.Pairwise.filter (fun r => decide (low % p ≤ r)) up
          have hm : r ∈ (rests f p).filter fun r => decide (low % p ≤ r) := List.mem_filter.mpr ⟨hr, decide_eq_true hr2⟩
          rw [hl] at u hm
          rcases List.mem_cons.mp hm with e | e
          · omega
          · have := (List.pairwise_cons.mp u).1 r e; omega
        have em : (low - low % p + r0) = low + (r0 - low % p) := by omega
        refine ⟨nD (low - low % p + r0), call_of c_least rfl (before (run_rt (ifs_true ((tv_lst (ev_var rfl)).trans ?_) (run_rt (st_ret (ev_bin (ev_bin (ev_var rfl) (ev_var rfl) (sub_nat hmod)) (ev_idx (ev_var rfl) ev_cst (by rw [hl]; exact il0)) add_nat)))))), .inl ⟨_, rfl, by omega, ?_, fun i h3 h4 => ?_⟩⟩
        · rw [hl]; rfl
        · rw [em, h.bit' (by omega), off_mod hp (by omega), show low % p + (r0 - low % p) = r0 by omega]
          exact decide_eq_true m0.1
        · rcases Nat.lt_or_ge i low with w | w
          · exact lowbits i h3 w
          · obtain ⟨j, rfl⟩ : ∃ j, i = low + j := ⟨i - low, by omega⟩
            rw [h.bit' (by omega), off_mod hp (by omega)]
            refine decide_eq_false fun q => ?_
            have := first _ q (by omega)
            omega
      | nil =>
        have small : ∀ r ∈ rests f p, r < low % p := fun r hr => by
          rcases Nat.lt_or_ge r (low % p) with w | w
          · exact w
          · have : r ∈ (rests f p).filter fun r => decide (low % p ≤ r) := List.mem_filter.mpr ⟨hr, decide_eq_true w⟩
            rw [hl] at this; cases this
        obtain ⟨r0, l, hr⟩ : ∃ r0 l, rests f p = r0 :: l := by
          cases e : rests f p with
          | nil => exact absurd e z
          | cons r0 l => exact ⟨r0, l, rfl⟩
        have m0 : r0 ∈ rests f p := by rw [hr]; exact List.mem_cons_self ..
        have m1 := small r0 m0
        have first : ∀ r ∈ rests f p, r0 ≤ r := fun r hm => by
          rw [hr] at up hm
          rcases List.mem_cons.mp hm with e | e
          · omega
          · have := (List.pairwise_cons.mp up).1 r e; omega
        have em : low - low % p + p + r0 = low + (p + r0 - low % p) := by omega
        refine ⟨nD (low - low % p + p + r0), call_of c_least rfl (before (run_nx (ifs_false ((tv_lst (ev_var rfl)).trans ?_) run_nil) (run_rt (st_ret (ev_bin (ev_bin (ev_bin (ev_var rfl) (ev_var rfl) (sub_nat hmod)) (ev_idx (ev_var rfl) ev_cst ix2) add_nat) (ev_idx (ev_idx (ev_var rfl) ev_cst ix3) ev_cst (by rw [hr]; exact ix0)) add_nat))))), .inl ⟨_, rfl, by omega, ?_, fun i h3 h4 => ?_⟩⟩
        · rw [hl]; rfl
        · rw [em, h.bit' (by omega), off_mod2 hp (by omega) (by omega), show low % p + (p + r0 - low % p) - p = r0 by omega]
          exact decide_eq_true m0
        · rcases Nat.lt_or_ge i low with w | w
          · exact lowbits i h3 w
          · obtain ⟨j, rfl⟩ : ∃ j, i = low + j := ⟨i - low, by omega⟩
            rw [h.bit' (by omega)]
            refine decide_eq_false fun q => ?_
            rcases Nat.lt_or_ge (low % p + j) p with v | v
            · rw [off_mod hp v] at q
              have := small _ q; omega
            · rw [off_mod2 hp v (by omega)] at q
              have := first _ q; omega
end
end PyI.K01
/-! Q10: the text of a set. -/
namespace PyI.K01
open PySem L2 PyProof.Rows
abbrev nL (n : Nat) : List Nat := TL.numL n
theorem nL_len {n : Nat} (h : n ≤ 1000) : (nL n).length ≤ 4 := TL.numL_len (by decide) (by omega)
theorem tx_nat (n : Nat) : (Str.ofString (toString (n : Int)) : Str) = tx (nL n) := tx_int (n : Int)
theorem log_ok {n : Nat} (h : n ≤ 1000) : ((n : Int).natAbs).log2 < 1920 := by
  rw [Int.natAbs_natCast]
  have : n.log2 ≤ n := by
    rcases Nat.eq_zero_or_pos n with e | e
    · subst e; decide
    · exact Nat.le_of_lt ((Nat.log2_lt (by omega)).mpr Nat.lt_two_pow_self)
  omega
section
variable {Γ : G} {ρ : Rho} {μ μ1 μ2 : Mu} {a b e : E}
theorem ev_cs {s : Str} {l : List Nat} (h : s = tx l) : evalE Γ (.cst (.str s)) ρ μ = .ok (.str (tx l)) μ := by rw [evalE, h]
theorem bif_str {n : Nat} (h : n ≤ 1000) : bifD .str [nD n] μ = .ok (.str (tx (nL n))) μ := by
  show needs _ _ = _
  rw [needs_pos (log_ok h), tx_nat]
theorem ev_fmt_nat {n : Nat} (h : n ≤ 1000) (ha : evalE Γ a ρ μ = .ok (nD n) μ1) : evalE Γ (.fmt a) ρ μ = .ok (.str (tx (nL n))) μ1 := by
  rw [evalE, ha, bind_ok]
  show needs _ _ = _
  rw [needs_pos (log_ok h), tx_nat]
theorem ev_fmt_str {l : List Nat} (h : l.length ≤ 16777216) (ha : evalE Γ a ρ μ = .ok (.str (tx l)) μ1) : evalE Γ (.fmt a) ρ μ = .ok (.str (tx l)) μ1 := by
  rw [evalE, ha, bind_ok]
  show needs _ _ = _
  rw [needs_pos (by rw [tx_len]; exact h)]
theorem evj_nil {acc : Str} : evalJ Γ .nil acc ρ μ = .ok (.str acc) μ := by rw [evalJ]
theorem evj_cons {es : Es} {x y : List Nat} {r : Res D} (ha : evalE Γ e ρ μ = .ok (.str (tx y)) μ1) (hz : x.length + y.length ≤ 16777216) (h : evalJ Γ es (tx (x ++ y)) ρ μ1 = r) : evalJ Γ (.cons e es) (tx x) ρ μ = r := by
  rw [evalJ, ha, bind_ok]
  show needs ((tx x ++ tx y).length ≤ 16777216) (evalJ Γ es (tx x ++ tx y) ρ μ1) = _
  rw [tx_add, needs_pos (by rw [tx_len, List.length_append]; exact hz), h]
theorem ev_fs {es : Es} {r : Res D} (h : evalJ Γ es (tx []) ρ μ = r) : evalE Γ (.fs es) ρ μ = r := by
  rw [evalE]; exact h
theorem add_tx {x y : List Nat} (hz : x.length + y.length ≤ 16777216) : binD .add (.str (tx x)) (.str (tx y)) μ = .ok (.str (tx (x ++ y))) μ := by
  show needs ((tx x).length + (tx y).length ≤ 16777216) _ = _
  rw [needs_pos (by rw [tx_len, tx_len]; exact hz), tx_add]
theorem sum_le {B : Nat} : ∀ {ps : List (List Nat)}, (∀ p ∈ ps, p.length ≤ B) → ((ps.map tx).map (·.length)).sum ≤ ps.length * B
  | [], _ => Nat.zero_le _
  | p :: ps, h => by
    have h1 := sum_le (ps := ps) fun q hq => h q (List.mem_cons_of_mem _ hq)
    have h2 := h p (List.mem_cons_self ..)
    rw [List.map_cons, List.map_cons, List.sum_cons, tx_len, List.length_cons, Nat.succ_mul]
    omega
theorem joinL_len {B : Nat} {y : List Nat} : ∀ {ps : List (List Nat)}, (∀ p ∈ ps, p.length ≤ B) → (TL.joinL y ps).length ≤ ps.length * (B + y.length)
  | [], _ => Nat.zero_le _
  | [p], h => by
    have := h p (List.mem_cons_self ..)
    rw [TL.joinL, List.length_singleton]; omega
  | p :: q :: r, h => by
    have h1 := joinL_len (y := y) (ps := q :: r) fun t ht => h t (List.mem_cons_of_mem _ ht)
    have h2 := h p (List.mem_cons_self ..)
    rw [TL.joinL, List.length_append, List.length_append, List.length_cons, Nat.succ_mul]
    omega
theorem ev_join {x : D} {y : List Nat} {ps : List (List Nat)} {B : Nat} (ha : evalE Γ a ρ μ = .ok (.str (tx y)) μ1) (hb : evalE Γ b ρ μ1 = .ok x μ2) (hx : seqD μ2 x = some (ps.map fun p => .str (tx p))) (hB : ∀ p ∈ ps, p.length ≤ B) (h1 : B ≤ 10000) (h2 : ps.length ≤ 500) (h3 : y.length ≤ 2) :
    evalE Γ (.met .join a (.cons b .nil)) ρ μ = .ok (.str (tx (TL.joinL y ps))) μ2 := by
  rw [evalE, ha, bind_ok, needs_pos (show tyD .join (.str (tx y)) μ1 = true from rfl), evalEs, hb, bind_ok, evalEs, bind_ok, bind_ok]
  have e : (seqD μ2 x).bind strsOf = some (ps.map tx) := by
    rw [hx, ← strs_map (ps.map tx), List.map_map]; rfl
  have hs := sum_le hB
  have hm : ps.length * B ≤ 500 * 10000 := Nat.mul_le_mul h2 h1
  have hm2 : ps.length * y.length ≤ 500 * 2 := Nat.mul_le_mul h2 h3
  have hn : ((ps.map tx).map (·.length)).sum + (ps.map tx).length * (tx y).length ≤ 16777216 := by
    rw [List.length_map, tx_len]; omega
  show (match (seqD μ2 x).bind strsOf with
    | some (ys : List Str) => needs ((ys.map (fun z : Str => Str.length z)).sum + ys.length * (tx y).length ≤ 16777216) (Res.ok (D.str (Txt.join (tx y) ys)) μ2)
    | none => Res.stuck) = _
  rw [e]
  show needs _ _ = _
  rw [needs_pos hn, tx_join]
theorem ne_nat {m n : Nat} : cmpD .ne (nD m) (nD n) μ = .ok (!decide (m = n)) μ := by
  show needs _ _ = _
  rw [needs_pos ⟨rfl, rfl⟩]
  show Res.ok (!((m : Int) == (n : Int))) μ = _
  congr 2
  rw [Bool.eq_iff_iff, beq_iff_eq, decide_eq_true_eq]
  omega
theorem eq_nat {m n : Nat} : cmpD .eq (nD m) (nD n) μ = .ok (decide (m = n)) μ := by
  show needs _ _ = _
  rw [needs_pos ⟨rfl, rfl⟩]
  show Res.ok ((m : Int) == (n : Int)) μ = _
  congr 1
  rw [Bool.eq_iff_iff, beq_iff_eq, decide_eq_true_eq]
  omega
end
/-! ### the text -/
def spL (r : Nat × Nat) : List Nat := if r.1 = r.2 then nL r.1 else nL r.1 ++ [46, 46] ++ nL r.2
def fromL (s p : Nat) (rs : List Nat) : List Nat := [102, 114, 111, 109, 32] ++ nL s ++ [32, 98, 121, 32] ++ nL p ++ [58, 32] ++ TL.joinL [32] (rs.map nL)
def setL (l : List (Nat × Nat)) (s p : Nat) (rs : List Nat) : List Nat :=
  if rs = [] then (if l = [] then [110, 111, 110, 101] else TL.joinL [44] (l.map spL)) else if l = [] then fromL s p rs else TL.joinL [44] (l.map spL) ++ [59, 32] ++ fromL s p rs
theorem spL_len {r : Nat × Nat} (h1 : r.1 ≤ 1000) (h2 : r.2 ≤ 1000) : (spL r).length ≤ 10 := by
  have a := nL_len h1
  have b := nL_len h2
  unfold spL
  split
  · omega
  · simp only [List.length_append, List.length_cons, List.length_nil]; omega
theorem span_text {k : Nat} {r : Nat × Nat} {μ : Mu} (h1 : r.1 ≤ 1000) (h2 : r.2 ≤ 1000) : (gg (k + 1)).call n_span_text [nD r.1, nD r.2] μ = .ok (.str (tx (spL r))) μ := by
  refine call_of c_span_text rfl (run_rt (st_ret ?_))
  have a := nL_len h1
  have b := nL_len h2
  unfold spL
  by_cases z : r.1 = r.2
  · rw [if_pos z]
    exact ev_ite_true (tv_bl (ev_cmp (ev_var rfl) (ev_var rfl) (eq_nat.trans (by rw [decide_eq_true z])))) (ev_bif1 (ev_var rfl) (bif_str h1))
  · rw [if_neg z]
    refine ev_ite_false (tv_bl (ev_cmp (ev_var rfl) (ev_var rfl) (eq_nat.trans (by rw [decide_eq_false z])))) (ev_fs ?_)
    refine evj_cons (x := []) (ev_fmt_nat h1 (ev_var rfl)) (by simp; omega) (evj_cons (ev_cs (by decide +kernel : (".." : Str) = tx [46, 46])) (by simp; omega) (evj_cons (ev_fmt_nat h2 (ev_var rfl)) (by simp; omega) evj_nil))
end PyI.K01
/-! Q11: show_set, the law's text of a set. -/
namespace PyI.K01
open PySem L2 PyProof.Rows
theorem fromL_len {s p : Nat} {rs : List Nat} (hs : s ≤ 1000) (hp : p ≤ 1000) (hr : ∀ r ∈ rs, r ≤ 1000) (hn : rs.length ≤ 300) : (TL.joinL [32] (rs.map nL)).length ≤ 1500 ∧ (fromL s p rs).length ≤ 1600 := by
  have a := nL_len hs
  have b := nL_len hp
  have c := joinL_len (y := [32]) (ps := rs.map nL) (B := 4) fun q hq => by
    obtain ⟨r, h, rfl⟩ := List.mem_map.mp hq
    exact nL_len (hr r h)
  rw [List.length_map] at c
  have d : (TL.joinL [32] (rs.map nL)).length ≤ 1500 := by simp only [List.length_cons, List.length_nil] at c; omega
  refine ⟨d, ?_⟩
  unfold fromL
  simp only [List.length_append, List.length_cons, List.length_nil]
  omega
theorem spans_len {l : List (Nat × Nat)} (h : ∀ r ∈ l, r.1 ≤ r.2 ∧ r.2 ≤ 1000) (hn : l.length ≤ 300) : (TL.joinL [44] (l.map spL)).length ≤ 3300 := by
  have c := joinL_len (y := [44]) (ps := l.map spL) (B := 10) fun q hq => by
    obtain ⟨r, hr, rfl⟩ := List.mem_map.mp hq
    have := h r hr
    exact spL_len (by omega) (by omega)
  rw [List.length_map] at c
  simp only [List.length_cons, List.length_nil] at c
  omega
theorem spL_ne (r : Nat × Nat) : spL r ≠ [] := by
  unfold spL
  split
  · exact TL.numL_ne _
  · intro e
    rw [List.append_assoc, List.append_eq_nil_iff] at e
    exact TL.numL_ne _ e.1
theorem joinL_ne {y : List Nat} {l : List (Nat × Nat)} (h : l ≠ []) : TL.joinL y (l.map spL) ≠ [] := by
  cases l with
  | nil => exact absurd rfl h
  | cons r l =>
    cases l with
    | nil => exact spL_ne r
    | cons q l =>
      intro e
      rw [List.map_cons, List.map_cons, TL.joinL, List.append_eq_nil_iff] at e
      exact spL_ne r e.1
theorem tv_str {Γ : G} {ρ : Rho} {μ μ1 : Mu} {e : E} {l : List Nat} (hz : l.length ≤ 16777216) (h : evalE Γ e ρ μ = .ok (.str (tx l)) μ1) : evalT Γ (.val e) ρ μ = .ok (l.length != 0) μ1 := by
  rw [evalT, h, bind_ok, truD, needs_pos (by rw [tx_len]; exact hz), tx_len]
theorem tv_ref {Γ : G} {ρ : Rho} {μ μ1 : Mu} {e : E} {n : Nat} {l : List D} (h : evalE Γ e ρ μ = .ok (.ref n) μ1) (hl : μ1[n]? = some (.lst l)) : evalT Γ (.val e) ρ μ = .ok (!l.isEmpty) μ1 := by
  rw [evalT, h, bind_ok]
  unfold truD
  simp only [hl]
theorem ev_lst1 {Γ : G} {ρ : Rho} {μ μ1 : Mu} {e : E} {d : D} (h : evalE Γ e ρ μ = .ok d μ1) : evalE Γ (.lst (.cons e .nil)) ρ μ = .ok (.lst [d]) μ1 := by
  rw [evalE, evalEs, h, bind_ok, evalEs, bind_ok, bind_ok, needs_pos (by simp)]
theorem map_isEmpty {α β : Type} {f : α → β} {l : List α} : (l.map f).isEmpty = l.isEmpty := by cases l <;> rfl
section
variable {k : Nat} {l : List (Nat × Nat)} {s p : Nat} {rs : List Nat} {μ : Mu}
theorem str_comp {own : List Nat} {i j : Nat} {Γ : G} {ρ : Rho} {e : E} (he : evalE Γ e ρ μ = .ok (.tup (rs.map nD)) μ) (hv : ∀ d, ((wipeR ρ [i]).set i (some d))[i]? = some (some d)) (hr : ∀ r ∈ rs, r ≤ 1000) (hn : rs.length ≤ 300) :
    evalE Γ (.comp [i] (.nm i) (.seq e) .yes (.bif .str (.cons (.var i) .nil))) ρ μ = .ok (.lst ((rs.map nL).map fun p => .str (tx p))) μ := by
  rw [List.map_map]
  refine ev_comp (it_tup he) (comp_all (g := fun n => D.str (tx (nL n))) (fun r h => ?_) (by omega))
  exact cbody_nm (ev_bif1 (ev_var (hv _)) (bif_str (hr r h)))
theorem show_set (hl : ∀ r ∈ l, r.1 ≤ r.2 ∧ r.2 ≤ 1000) (hln : l.length ≤ 300) (hs : s ≤ 1000) (hp : p ≤ 1000) (hr : ∀ r ∈ rs, r ≤ 1000) (hn : rs.length ≤ 300) (hμ : PureM μ) : (gg (k + 2)).call n_show_set [setD l s p rs] μ = .ok (.str (tx (setL l s p rs))) μ := by
  obtain ⟨f1, f2⟩ := fromL_len hs hp hr hn
  have f3 := spans_len hl hln
  have a4 := nL_len hs
  have b4 := nL_len hp
  let sp : List (List Nat) := if l = [] then [] else [TL.joinL [44] (l.map spL)]
  have n1 : evalE (gg (k + 1)) (.ite (.val (.var 1)) (.lst (.cons (.met .join (.cst (.str ",")) (.cons (.comp [5, 6] (.tp [5, 6]) (.seq (.var 1)) .yes (.call 9 (.cons (.var 5) (.cons (.var 6) .nil)))) .nil)) .nil)) (.lst .nil))
      [some (setD l s p rs), some (.tup (l.map prD)), some (nD s), none, none, none, none, none] μ = .ok (.lst (sp.map fun p => .str (tx p))) μ := by
    by_cases z : l = []
    · have : sp = [] := if_pos z
      rw [this]
      refine ev_ite_false (μ1 := μ) ((tv_tup (ev_var rfl)).trans ?_) ev_lst0
      rw [z]; rfl
    · have : sp = [TL.joinL [44] (l.map spL)] := if_neg z
      rw [this]
      refine ev_ite_true (μ1 := μ) ((tv_tup (ev_var rfl)).trans ?_) (ev_lst1 (ev_join (μ1 := μ) (x := .lst ((l.map spL).map fun p => .str (tx p))) (ps := l.map spL) (B := 10) (ev_cs (by decide +kernel : ("," : Str) = tx [44])) ?_ rfl ?_ (by decide) (by rw [List.length_map]; omega) (by decide)))
      · rw [map_isEmpty, List.isEmpty_eq_false_iff.mpr z]; rfl
      · rw [List.map_map]
        refine ev_comp (it_tup (ev_var rfl)) (comp_all (g := fun r => D.str (tx (spL r))) (fun r h => ?_) (by omega))
        have := hl r h
        exact cbody_tp2 (ev_call2 (ev_var rfl) (ev_var rfl) (span_text (k := k) (by omega) (by omega)))
      · intro q hq
        obtain ⟨r, h, rfl⟩ := List.mem_map.mp hq
        have := hl r h
        exact spL_len (by omega) (by omega)
  have hsp : sp.length ≤ 1 := by
    show (if l = [] then [] else [TL.joinL [44] (l.map spL)] : List (List Nat)).length ≤ 1
    split <;> simp
  have hspB : ∀ q ∈ sp, q.length ≤ 9000 := by
    intro q hq
    have hq' : q ∈ (if l = [] then [] else [TL.joinL [44] (l.map spL)] : List (List Nat)) := hq
    split at hq'
    · cases hq'
    · rw [List.mem_singleton.mp hq']; omega
  have fin : ∀ {ts : List (List Nat)} {x4 : Option D}, ts.length ≤ 2 → (∀ q ∈ ts, q.length ≤ 9000) → (if ts = [] then [110, 111, 110, 101] else TL.joinL [59, 32] ts) = setL l s p rs →
      runB (gg (k + 1)) (.cons (.ret (.ite (.val (.var 3)) (.met .join (.cst (.str "; ")) (.cons (.var 3) .nil)) (.cst (.str "none")))) .nil) [some (setD l s p rs), some (.tup (l.map prD)), some (nD s), some (.ref μ.length), x4, none, none, none] (μ ++ [.lst (ts.map fun p => .str (tx p))]) = .rt (.str (tx (setL l s p rs))) (μ ++ [.lst (ts.map fun p => .str (tx p))]) := by
    intro ts x4 h1 h2 h3
    rw [← h3]
    refine run_rt (st_ret ?_)
    by_cases z : ts = []
    · rw [if_pos z]
      refine ev_ite_false (μ1 := μ ++ [.lst (ts.map fun p => .str (tx p))]) ((tv_ref (ev_var rfl) snoc_get).trans ?_) (ev_cs (by decide +kernel))
      rw [z]; rfl
    · rw [if_neg z]
      refine ev_ite_true (μ1 := μ ++ [.lst (ts.map fun p => .str (tx p))]) ((tv_ref (ev_var rfl) snoc_get).trans ?_) (ev_join (μ1 := μ ++ [.lst (ts.map fun p => .str (tx p))]) (x := .ref μ.length) (B := 9000) (ev_cs (by decide +kernel : ("; " : Str) = tx [59, 32])) (ev_var rfl) ?_ h2 (by decide) (by omega) (by decide))
      · rw [map_isEmpty, List.isEmpty_eq_false_iff.mpr z]; rfl
      · unfold seqD; simp only [snoc_get]
  have top : ∀ {o : Out}, runB (gg (k + 1)) (match b_show_set with | .cons _ (.cons _ b) => b | b => b) [some (setD l s p rs), some (.tup (l.map prD)), some (nD s), some (.ref μ.length), none, none, none, none] (μ ++ [.lst (sp.map fun p => .str (tx p))]) = o → runB (gg (k + 1)) b_show_set (startR f_show_set.N.length [setD l s p rs]) μ = o := fun e =>
    run_nx (st_tp2 (ev_idx (ev_var rfl) ev_cst ix1)) (run_nx (st_new n1) e)
  have tr : evalT (gg (k + 1)) (.val (.idx (.var 0) (.cst (.int 3)))) [some (setD l s p rs), some (.tup (l.map prD)), some (nD s), some (.ref μ.length), none, none, none, none] (μ ++ [.lst (sp.map fun p => .str (tx p))]) = .ok (!(rs.map nD).isEmpty) (μ ++ [.lst (sp.map fun p => .str (tx p))]) := tv_tup (ev_idx (ev_var rfl) ev_cst ix3)
  by_cases z : rs = []
  · refine call_one c_show_set hμ rfl (top (run_nx (ifs_false (tr.trans ?_) run_nil) (fin (ts := sp) (by omega) hspB ?_)))
    · rw [z]; rfl
    · unfold setL
      rw [if_pos z]
      show (if (if l = [] then [] else [TL.joinL [44] (l.map spL)] : List (List Nat)) = [] then _ else TL.joinL [59, 32] (if l = [] then [] else [TL.joinL [44] (l.map spL)])) = _
      by_cases w : l = []
      · simp only [w, if_true]
      · simp only [if_neg w]
        rw [if_neg (by simp)]; rfl
  · have e4 := str_comp (own := []) (i := 7) (j := 7) (Γ := gg (k + 1)) (rs := rs) (μ := μ ++ [.lst (sp.map fun p => .str (tx p))]) (ρ := [some (setD l s p rs), some (.tup (l.map prD)), some (nD s), some (.ref μ.length), none, none, none, none]) (e := .idx (.var 0) (.cst (.int 3))) (ev_idx (ev_var rfl) ev_cst ix3) (fun _ => rfl) hr hn
    have e5 := ev_join (B := 4) (ev_cs (by decide +kernel : (" " : Str) = tx [32])) e4 rfl (by
      intro q hq
      obtain ⟨r, h, rfl⟩ := List.mem_map.mp hq
      exact nL_len (hr r h)) (by decide) (by rw [List.length_map]; omega) (by decide)
    have hap : (sp.map fun p => D.str (tx p)).length < 16777216 := by rw [List.length_map]; omega
    have eset : (if sp ++ [fromL s p rs] = [] then [110, 111, 110, 101] else TL.joinL [59, 32] (sp ++ [fromL s p rs])) = setL l s p rs := by
      unfold setL
      rw [if_neg (by simp), if_neg z]
      show TL.joinL [59, 32] ((if l = [] then [] else [TL.joinL [44] (l.map spL)]) ++ [fromL s p rs]) = _
      by_cases w : l = []
      · rw [if_pos w, if_pos w]; rfl
      · rw [if_neg w, if_neg w]
        show TL.joinL [44] (l.map spL) ++ ([59, 32] ++ fromL s p rs) = _
        rw [List.append_assoc]
    refine call_one c_show_set hμ rfl (top (run_nx (ρ' := [some (setD l s p rs), some (.tup (l.map prD)), some (nD s), some (.ref μ.length), some (.str (tx (TL.joinL [32] (rs.map nL)))), none, none, none]) (μ' := μ ++ [.lst ((sp ++ [fromL s p rs]).map fun p => .str (tx p))]) (ifs_true (μ' := μ ++ [.lst (sp.map fun p => .str (tx p))]) (tr.trans ?_) ?_) (fin (ts := sp ++ [fromL s p rs]) (by rw [List.length_append, List.length_singleton]; omega) (fun q hq => ?_) eset)))
    · rw [map_isEmpty, List.isEmpty_eq_false_iff.mpr z]; rfl
    · refine run_nx (st_set e5) (run_nx (st_append (ev_var rfl) (d := .str (tx (fromL s p rs))) (ev_fs ?_) snoc_get hap ?_ snoc_get) run_nil)
      · refine evj_cons (x := []) (ev_cs (by decide +kernel : ("from " : Str) = tx [102, 114, 111, 109, 32])) (by simp) (evj_cons (ev_fmt_nat hs (ev_var rfl)) (by simp; omega) (evj_cons (ev_cs (by decide +kernel : (" by " : Str) = tx [32, 98, 121, 32])) (by simp; omega) (evj_cons (ev_fmt_nat hp (ev_idx (ev_var rfl) ev_cst ix2)) (by simp; omega) (evj_cons (ev_cs (by decide +kernel : (": " : Str) = tx [58, 32])) (by simp; omega) (evj_cons (ev_fmt_str (by omega) (ev_var rfl)) (by simp; omega) evj_nil)))))
      · rw [snoc_set, List.map_append]; rfl
    · rcases List.mem_append.mp hq with w | w
      · exact hspB q w
      · rw [List.mem_singleton.mp w]; omega
end
end PyI.K01
/-! Q12: the law's text of a set; what is alike. -/
namespace PyI.K01
open PySem L2 PyProof.Rows
def fine (l : List Nat) : Prop := l.all (· < 0x110000) = true
instance (l : List Nat) : Decidable (fine l) := inferInstanceAs (Decidable (_ = true))
theorem fine_app {a b : List Nat} (h : fine a) (k : fine b) : fine (a ++ b) := by
  unfold fine at *
  rw [List.all_append, h, k]; rfl
theorem fine_nL (n : Nat) : fine (nL n) := by
  unfold fine
  rw [List.all_eq_true]
  intro c hc
  have := TL.numL_digits n c hc
  exact decide_eq_true (by omega)
theorem fine_joinL {y : List Nat} (hy : fine y) : ∀ {ps : List (List Nat)}, (∀ p ∈ ps, fine p) → fine (TL.joinL y ps)
  | [], _ => rfl
  | [p], h => h p (List.mem_cons_self ..)
  | p :: q :: r, h => by
    rw [TL.joinL]
    exact fine_app (h p (List.mem_cons_self ..)) (fine_app hy (fine_joinL hy fun t ht => h t (List.mem_cons_of_mem _ ht)))
theorem fine_spL (r : Nat × Nat) : fine (spL r) := by
  unfold spL
  split
  · exact fine_nL _
  · exact fine_app (fine_app (fine_nL _) (by decide)) (fine_nL _)
theorem fine_spans (l : List (Nat × Nat)) : fine (TL.joinL [44] (l.map spL)) := fine_joinL (by decide) fun p hp => by
  obtain ⟨r, _, rfl⟩ := List.mem_map.mp hp
  exact fine_spL r
theorem fine_from (s p : Nat) (rs : List Nat) : fine (fromL s p rs) := by
  unfold fromL
  exact fine_app (fine_app (fine_app (fine_app (fine_app (by decide) (fine_nL _)) (by decide)) (fine_nL _)) (by decide)) (fine_joinL (by decide) fun p hp => by
    obtain ⟨r, _, rfl⟩ := List.mem_map.mp hp
    exact fine_nL r)
theorem fine_set (l : List (Nat × Nat)) (s p : Nat) (rs : List Nat) : fine (setL l s p rs) := by
  unfold setL
  split
  · split
    · decide
    · exact fine_spans l
  · split
    · exact fine_from s p rs
    · exact fine_app (fine_app (fine_spans l) (by decide)) (fine_from s p rs)
theorem eq_tx {a b : List Nat} {μ : Mu} (ha : fine a) (hb : fine b) : cmpD .eq (.str (tx a)) (.str (tx b)) μ = .ok (a == b) μ := by
  rw [eq_str (by rw [tx_all]; exact ha) (by rw [tx_all]; exact hb), tx_beq]
theorem ok_nDs : ∀ {n : Nat} (rs : List Nat), eqOks n (rs.map nD) = true
  | _, [] => by unfold eqOks; rfl
  | n, r :: rs => by
    rw [List.map_cons, eqOks, ok_nDs rs]
    cases n <;> rfl
theorem eq_nDs_nil {rs : List Nat} {μ : Mu} : cmpD .eq (.tup (rs.map nD)) (.tup []) μ = .ok (decide (rs = [])) μ := by
  show needs (eqOk 64 (.tup (rs.map nD)) = true ∧ eqOk 64 (.tup []) = true) _ = _
  rw [needs_pos ⟨by rw [eqOk]; exact ok_nDs rs, rfl⟩]
  cases rs <;> rfl
theorem ne_nDs_nil {rs : List Nat} {μ : Mu} : cmpD .ne (.tup (rs.map nD)) (.tup []) μ = .ok (!decide (rs = [])) μ := by
  show needs (eqOk 64 (.tup (rs.map nD)) = true ∧ eqOk 64 (.tup []) = true) _ = _
  rw [needs_pos ⟨by rw [eqOk]; exact ok_nDs rs, rfl⟩]
  cases rs <;> rfl
theorem ev_or_t {Γ : G} {ρ : Rho} {μ μ1 : Mu} {a b : E} {x : D} (ha : evalE Γ a ρ μ = .ok x μ1) (ht : truD μ1 x μ1 = .ok true μ1) : evalE Γ (.or a b) ρ μ = .ok x μ1 := by
  rw [evalE, ha, bind_ok, ht, bind_ok, if_pos rfl]
theorem ev_or_f {Γ : G} {ρ : Rho} {μ μ1 : Mu} {a b : E} {x : D} {r : Res D} (ha : evalE Γ a ρ μ = .ok x μ1) (ht : truD μ1 x μ1 = .ok false μ1) (hb : evalE Γ b ρ μ1 = r) : evalE Γ (.or a b) ρ μ = r := by
  rw [evalE, ha, bind_ok, ht, bind_ok, if_neg (by decide), hb]
theorem ev_and_t {Γ : G} {ρ : Rho} {μ μ1 : Mu} {a b : E} {x : D} {r : Res D} (ha : evalE Γ a ρ μ = .ok x μ1) (ht : truD μ1 x μ1 = .ok true μ1) (hb : evalE Γ b ρ μ1 = r) : evalE Γ (.and a b) ρ μ = r := by
  rw [evalE, ha, bind_ok, ht, bind_ok, if_pos rfl, hb]
theorem ev_and_f {Γ : G} {ρ : Rho} {μ μ1 : Mu} {a b : E} {x : D} (ha : evalE Γ a ρ μ = .ok x μ1) (ht : truD μ1 x μ1 = .ok false μ1) : evalE Γ (.and a b) ρ μ = .ok x μ1 := by
  rw [evalE, ha, bind_ok, ht, bind_ok, if_neg (by decide)]
theorem tru_tx {l : List Nat} {μ ν : Mu} (h : l.length ≤ 16777216) : truD μ (.str (tx l)) ν = .ok (l.length != 0) ν := by
  rw [truD, needs_pos (by rw [tx_len]; exact h), tx_len]
theorem ev_add {Γ : G} {ρ : Rho} {μ μ1 μ2 : Mu} {a b : E} {x y : List Nat} (ha : evalE Γ a ρ μ = .ok (.str (tx x)) μ1) (hb : evalE Γ b ρ μ1 = .ok (.str (tx y)) μ2) (hz : x.length + y.length ≤ 16777216) : evalE Γ (.bin .add a b) ρ μ = .ok (.str (tx (x ++ y))) μ2 :=
  ev_bin ha hb (add_tx hz)
theorem mul_tx {l : List Nat} {v : Bool} {μ : Mu} (h : l.length ≤ 1000) : binD .mul (.str (tx l)) (.int (if v then 1 else 0)) μ = .ok (.str (tx (if v then l else []))) μ := by
  cases v with
  | true =>
    show needs ((-(2 ^ 62) ≤ (1 : Int) ∧ (1 : Int) < 2 ^ 62) ∧ (tx l).length * (1 : Int).toNat ≤ 16777216) _ = _
    rw [needs_pos ⟨by decide, by rw [tx_len]; show l.length * 1 ≤ _; omega⟩]; exact congrArg (fun s => Res.ok (D.str s) μ) strRep_one
  | false =>
    show needs ((-(2 ^ 62) ≤ (0 : Int) ∧ (0 : Int) < 2 ^ 62) ∧ (tx l).length * (0 : Int).toNat ≤ 16777216) _ = _
    rw [needs_pos ⟨by decide, by show (tx l).length * 0 ≤ _; omega⟩]; rfl
section
variable {k : Nat} {l : List (Nat × Nat)} {s p : Nat} {rs : List Nat} {μ : Mu}
theorem set_text (hl : ∀ r ∈ l, r.1 ≤ r.2 ∧ r.2 ≤ 1000) (hln : l.length ≤ 300) (hs : s ≤ 1000) (hp : p ≤ 1000) (hr : ∀ r ∈ rs, r ≤ 1000) (hn : rs.length ≤ 300) : (gg (k + 1)).call n_law_set_text [setD l s p rs] μ = .ok (.str (tx (setL l s p rs))) μ := by
  obtain ⟨f1, f2⟩ := fromL_len hs hp hr hn
  have f3 := spans_len hl hln
  have a4 := nL_len hs
  have b4 := nL_len hp
  have e1 : evalE (gg k) (.comp [3, 4] (.tp [3, 4]) (.seq (.idx (.idx (.var 0) (.cst (.int 1))) (.cst (.int 0)))) .yes (.bin .add (.bif .str (.cons (.var 3) .nil)) (.bin .mul (.bin .add (.cst (.str "..")) (.bif .str (.cons (.var 4) .nil))) (.bif .int (.cons (.cmp .ne (.var 3) (.var 4)) .nil))))) [some (setD l s p rs), none, none, none, none, none] μ = .ok (.lst ((l.map spL).map fun p => .str (tx p))) μ := by
    rw [List.map_map]
    refine ev_comp (it_tup (ev_idx (ev_idx (ev_var rfl) ev_cst ix1) ev_cst ix0)) (comp_all (g := fun r => D.str (tx (spL r))) (fun r h => ?_) (by omega))
    have hr' := hl r h
    have c1 := nL_len (show r.1 ≤ 1000 by omega)
    have c2 := nL_len (show r.2 ≤ 1000 by omega)
    have ex : spL r = nL r.1 ++ (if !decide (r.1 = r.2) then [46, 46] ++ nL r.2 else []) := by
      unfold spL
      by_cases z : r.1 = r.2
      · rw [if_pos z, decide_eq_true z]; simp
      · rw [if_neg z, decide_eq_false z]; simp
    rw [ex]
    refine cbody_tp2 (ev_add (ev_bif1 (ev_var rfl) (bif_str (by omega))) (ev_bin (ev_add (ev_cs (by decide +kernel)) (ev_bif1 (ev_var rfl) (bif_str (by omega))) (by simp; omega)) (ev_bif1 (ev_cmp (ev_var rfl) (ev_var rfl) ne_nat) rfl) (mul_tx (by simp; omega))) ?_)
    split
    · simp; omega
    · simp; omega
  have e2 := ev_join (B := 10) (ev_cs (by decide +kernel : ("," : Str) = tx [44])) e1 rfl (by
      intro q hq
      obtain ⟨r, h, rfl⟩ := List.mem_map.mp hq
      have := hl r h
      exact spL_len (by omega) (by omega)) (by decide) (by rw [List.length_map]; omega) (by decide)
  have e3 := str_comp (own := []) (i := 5) (j := 5) (Γ := gg k) (rs := rs) (μ := μ) (ρ := [some (setD l s p rs), some (.str (tx (TL.joinL [44] (l.map spL)))), none, none, none, none]) (e := .idx (.var 0) (.cst (.int 3))) (ev_idx (ev_var rfl) ev_cst ix3) (fun _ => rfl) hr hn
  have e4 := ev_join (B := 4) (ev_cs (by decide +kernel : (" " : Str) = tx [32])) e3 rfl (by
      intro q hq
      obtain ⟨r, h, rfl⟩ := List.mem_map.mp hq
      exact nL_len (hr r h)) (by decide) (by rw [List.length_map]; omega) (by decide)
  refine call_of c_law_set_text rfl (run_nx (st_set e2) ?_)
  refine run_nx (st_set (d := .str (tx (fromL s p rs))) (μ1 := μ) ?_) ?_
  · exact ev_add (ev_add (ev_add (ev_add (ev_add (ev_cs (by decide +kernel)) (ev_bif1 (ev_idx (ev_idx (ev_var rfl) ev_cst ix1) ev_cst ix1) (bif_str hs)) (by simp; omega)) (ev_cs (by decide +kernel)) (by simp; omega)) (ev_bif1 (ev_idx (ev_var rfl) ev_cst ix2) (bif_str hp)) (by simp; omega)) (ev_cs (by decide +kernel)) (by simp; omega)) e4 (by simp; omega)
  have et0 : evalE (gg k) (.tup .nil) [some (setD l s p rs), some (.str (tx (TL.joinL [44] (l.map spL)))), some (.str (tx (fromL s p rs))), none, none, none] μ = .ok (.tup []) μ := by
    rw [evalE, evalEs, bind_ok, needs_pos (by simp)]
  unfold setL
  by_cases z : rs = []
  · rw [if_pos z]
    refine run_rt (ifs_true (μ' := μ) (tv_bl (ev_cmp (ev_idx (ev_var rfl) ev_cst ix3) et0 (eq_nDs_nil.trans (by rw [decide_eq_true z])))) (run_rt (st_ret ?_)))
    by_cases w : l = []
    · rw [if_pos w]
      refine ev_or_f (ev_var rfl) ((tru_tx (by omega)).trans ?_) (ev_cs (by decide +kernel))
      rw [w]; rfl
    · rw [if_neg w]
      refine ev_or_t (ev_var rfl) ((tru_tx (by omega)).trans ?_)
      have := joinL_ne (y := [44]) w
      have h2 : ((TL.joinL [44] (l.map spL)).length != 0) = true := by
        rw [bne_iff_ne]; exact fun e => this (List.length_eq_zero_iff.mp e)
      rw [h2]
  · rw [if_neg z]
    refine run_nx (ifs_false (μ' := μ) (tv_bl (ev_cmp (ev_idx (ev_var rfl) ev_cst ix3) et0 (eq_nDs_nil.trans (by rw [decide_eq_false z])))) run_nil) ?_
    by_cases w : l = []
    · rw [if_pos w]
      refine run_rt (ifs_true (μ' := μ) (tv_bl (ev_cmp (ev_var rfl) (ev_cs t_11) ((eq_tx (fine_spans l) (by decide)).trans ?_))) (run_rt (st_ret (ev_var rfl))))
      rw [w]; rfl
    · rw [if_neg w]
      refine run_nx (ifs_false (μ' := μ) (tv_bl (ev_cmp (ev_var rfl) (ev_cs t_11) ((eq_tx (fine_spans l) (by decide)).trans ?_))) run_nil) (run_rt (st_ret (ev_add (ev_add (ev_var rfl) (ev_cs (by decide +kernel)) (by simp; omega)) (ev_var rfl) (by simp; omega))))
      rw [beq_eq_false_iff_ne.mpr (joinL_ne w)]
end
end PyI.K01
/-! Q13: like; what holds. -/
namespace PyI.K01
open PySem L2 PyProof.Rows
/-- what is looked at part by part, at most n deep -/
def lk : Nat → D → Prop
  | _, .non => True
  | _, .bl _ => True
  | _, .int _ => True
  | _, .str s => fine s.cps.toList ∧ s.length ≤ 9000
  | n + 1, .tup l => l.length ≤ 1000 ∧ ∀ x ∈ l, lk n x
  | _, _ => False
theorem isi_eq {Γ : G} {ρ : Rho} {μ : Mu} {a : E} {d : D} {t : Ty} {v : Bool} (ha : evalE Γ a ρ μ = .ok d μ) (h : isiD d t μ = .ok (.bl v) μ) : evalE Γ (.isi a t) ρ μ = .ok (.bl v) μ := by
  rw [evalE, ha, bind_ok, h]
theorem comp_empty {Γ : G} {own : List Nat} {tg : Tg} {it : IT} {c : T} {e : E} {ρ : Rho} {μ : Mu} {α : Type} {a : α → D} {ds : List α} (h : evalIt Γ it ρ μ = .ok (ds.map a, none) μ) (h2 : ∀ d ∈ ds, cbody Γ own tg c e ρ (a d) μ = .ok none μ) (hl : ds.length ≤ 16777216) : evalE Γ (.comp own tg it c e) ρ μ = .ok (.lst []) μ := by
  refine ev_comp h ?_
  have := comp_filter (f := cbody Γ own tg c e ρ) (a := a) (c := fun _ => false) (g := a) (μ := μ) (ds := ds) (acc := []) (fun d hd => (h2 d hd).trans rfl) (by simpa using hl)
  rw [this]
  simp
theorem cbody_no {Γ : G} {own : List Nat} {i : Nat} {t : T} {e : E} {ρ : Rho} {d : D} {μ : Mu} (ht : evalT Γ t ((wipeR ρ own).set i (some d)) μ = .ok false μ) : cbody Γ own (.nm i) t e ρ d μ = .ok none μ := by
  unfold cbody
  simp only [assignT, ht, bind_ok]
  rfl
theorem like_ok : ∀ (n : Nat) {k : Nat} {d : D} {μ : Mu}, lk n d → (gg (k + n + 1)).call n_law_like [d, d] μ = .ok (.bl true) μ := by
  intro n
  induction n with
  | zero =>
    intro k d μ h
    cases d with
    | tup l => exact h.elim
    | lst l => exact h.elim
    | kl l => exact h.elim
    | ref n => exact h.elim
    | non =>
      refine call_of c_law_like rfl (run_nx (ifs_false (tv_bl (isi_eq (ev_var rfl) rfl)) run_nil) (run_rt (ifs_true (tv_bl (ev_cmp (ev_var rfl) ev_cst rfl)) (run_rt (st_ret (ev_cmp (ev_var rfl) ev_cst rfl))))))
    | bl v =>
      refine call_of c_law_like rfl (run_nx (ifs_false (tv_bl (isi_eq (ev_var rfl) rfl)) run_nil) (run_nx (ifs_false (tv_bl (ev_cmp (ev_var rfl) ev_cst rfl)) run_nil) ?_))
      cases v with
      | true => exact run_rt (ifs_true (tv_bl (ev_cmp (ev_var rfl) ev_cst rfl)) (run_rt (st_ret (ev_cmp (ev_var rfl) ev_cst rfl))))
      | false => exact run_nx (ifs_false (tv_bl (ev_cmp (ev_var rfl) ev_cst rfl)) run_nil) (run_rt (ifs_true (tv_bl (ev_cmp (ev_var rfl) ev_cst rfl)) (run_rt (st_ret (ev_cmp (ev_var rfl) ev_cst rfl)))))
    | int i =>
      refine call_of c_law_like rfl (run_nx (ifs_false (tv_bl (isi_eq (ev_var rfl) rfl)) run_nil) (run_nx (ifs_false (tv_bl (ev_cmp (ev_var rfl) ev_cst rfl)) run_nil) (run_nx (ifs_false (tv_bl (ev_cmp (ev_var rfl) ev_cst rfl)) run_nil) (run_nx (ifs_false (tv_bl (ev_cmp (ev_var rfl) ev_cst rfl)) run_nil) (run_nx (ifs_false (tv_bl (isi_eq (ev_var rfl) rfl)) run_nil) (run_rt (st_ret ?_)))))))
      refine ev_and_t (x := .bl true) (isi_eq (ev_var rfl) rfl) rfl (ev_and_t (x := .bl true) (μ1 := μ) ?_ rfl (ev_cmp (ev_var rfl) (ev_var rfl) (eq_int.trans (by rw [beq_self_eq_true]))))
      rw [evalE, tv_bl (isi_eq (ev_var rfl) (v := false) rfl), bind_ok]
      rfl
    | str s =>
      obtain ⟨h1, h2⟩ := h
      rw [tx_self s] at h1 h2 ⊢
      generalize s.cps.toList = l at h1 h2
      rw [tx_len] at h2
      rw [tx_l] at h1
      refine call_of c_law_like rfl (run_nx (ifs_false (tv_bl (isi_eq (ev_var rfl) rfl)) run_nil) (run_nx (ifs_false (tv_bl (ev_cmp (ev_var rfl) ev_cst rfl)) run_nil) (run_nx (ifs_false (tv_bl (ev_cmp (ev_var rfl) ev_cst rfl)) run_nil) (run_nx (ifs_false (tv_bl (ev_cmp (ev_var rfl) ev_cst rfl)) run_nil) (run_rt (ifs_true (tv_bl (isi_eq (ev_var rfl) rfl)) (run_rt (st_ret ?_))))))))
      refine ev_and_t (x := .bl true) (isi_eq (ev_var rfl) rfl) rfl (ev_cmp (ev_join (x := .lst [.str (tx l)]) (ps := [l]) (B := 9000) (ev_cs t_11) (ev_lst1 (ev_var rfl)) rfl (fun q hq => by rw [List.mem_singleton.mp hq]; exact h2) (by decide) (by simp) (by decide)) (ev_var rfl) ((eq_tx h1 h1).trans (by rw [beq_self_eq_true])))
  | succ n ih =>
    intro k d μ h
    cases d with
    | lst l => exact h.elim
    | kl l => exact h.elim
    | ref n => exact h.elim
    | tup l =>
      obtain ⟨h1, h2⟩ := h
      have hlen : ∀ {μ : Mu}, bifD .len [.tup l] μ = .ok (nD l.length) μ := rfl
      refine call_of c_law_like rfl (run_rt (ifs_true (tv_bl (isi_eq (ev_var rfl) rfl)) (run_nx (ifs_false (μ' := μ) ?_ run_nil) (run_rt (st_ret ?_)))))
      · have t1 : evalT (gg (k + (n + 1))) (.not (.val (.isi (.var 0) .tuple))) (startR f_law_like.N.length [.tup l, .tup l]) μ = .ok (!true) μ := tv_not (tv_bl (isi_eq (ev_var rfl) rfl))
        rw [evalT, t1, bind_ok]
        show evalT _ _ _ _ = _
        exact tv_bl (ev_cmp (ev_bif1 (ev_var rfl) hlen) (ev_bif1 (ev_var rfl) hlen) (ne_nat.trans (by simp)))
      · refine ev_cmp (x := .lst []) (y := .lst []) (μ1 := μ) (comp_empty (a := nD) (ds := List.range l.length) ?_ (fun i hi => ?_) (by simp; omega)) ev_lst0 rfl
        · rw [← rng0]
          exact it_rng1 (ev_bif1 (ev_var rfl) hlen) rfl (by omega)
        · have hi' : i < l.length := List.mem_range.mp hi
          have e := ih (k := k) (d := l[i]) (μ := μ) (h2 _ (List.getElem_mem hi'))
          have g : l[i]? = some l[i] := List.getElem?_eq_getElem hi'
          refine cbody_no (tv_not (tv_bl (ev_call2 (ev_idx (ev_var rfl) (ev_var rfl) (ix_tup g)) (ev_idx (ev_var rfl) (ev_var rfl) (ix_tup g)) e)))
    | non => exact ih (k := k + 1) (d := .non) (by cases n <;> trivial) |> fun e => by rw [show k + (n + 1) + 1 = k + 1 + n + 1 by omega]; exact e
    | bl v => exact ih (k := k + 1) (d := .bl v) (by cases n <;> trivial) |> fun e => by rw [show k + (n + 1) + 1 = k + 1 + n + 1 by omega]; exact e
    | int i => exact ih (k := k + 1) (d := .int i) (by cases n <;> trivial) |> fun e => by rw [show k + (n + 1) + 1 = k + 1 + n + 1 by omega]; exact e
    | str s => exact ih (k := k + 1) (d := .str s) (by cases n <;> exact h) |> fun e => by rw [show k + (n + 1) + 1 = k + 1 + n + 1 by omega]; exact e
end PyI.K01
/-! Q14: the law's look at conditions. -/
namespace PyI.K01
open PySem L2 PyProof.Rows
theorem ev_notv {Γ : G} {ρ : Rho} {μ μ1 : Mu} {a : E} {v : Bool} (h : evalE Γ a ρ μ = .ok (.bl v) μ1) : evalE Γ (.notv (.val a)) ρ μ = .ok (.bl (!v)) μ1 := by
  rw [evalE, tv_bl h, bind_ok]
theorem is_non {d : D} {v : Bool} {μ : Mu} (h : (d = .non ∧ v = true) ∨ (∃ i, d = .int i ∧ v = false)) : cmpD .is_ d .non μ = .ok v μ := by
  rcases h with ⟨rfl, rfl⟩ | ⟨i, rfl, rfl⟩ <;> rfl
section
variable {k : Nat} {μ : Mu}
theorem holds_plain {a : At} (ok : okAt a) {n : Nat} : (gg (k + 1)).call n_law_atom_holds [atD a, nD n] μ = .ok (.bl (hAt a n)) μ := by
  cases a with
  | rest m lo hi =>
    obtain ⟨h1, h2, h3⟩ := ok
    show (gg (k + 1)).call n_law_atom_holds [.tup [.str "rest", nD m, nD lo, nD hi], nD n] μ = _
    refine call_of c_law_atom_holds rfl ?_
    refine run_nx (ifs_false (μ' := μ) (tv_bl (ev_cmp (ev_idx (ev_var rfl) ev_cst ix0) ev_cst w_rn)) run_nil) ?_
    refine run_nx_rt (ifs_true (μ' := μ) (tv_bl (ev_cmp (ev_idx (ev_var rfl) ev_cst ix0) ev_cst w_rr)) (run_rt (st_ret ?_)))
    refine (ev_chn_le (i := (lo : Int)) (j := ((n % m : Nat) : Int)) (l := (hi : Int)) (ev_idx (ev_var rfl) ev_cst ix2) (ev_bin (ev_bif1 (ev_var rfl) int_int) (ev_idx (ev_var rfl) ev_cst ix1) (mod_nat (by omega))) (ev_idx (ev_var rfl) ev_cst ix3)).trans ?_
    rw [decide_eq_decide.mpr (Int.ofNat_le (m := lo) (n := n % m)), decide_eq_decide.mpr (Int.ofNat_le (m := n % m) (n := hi))]
    rfl
  | inn lo hi =>
    show (gg (k + 1)).call n_law_atom_holds [.tup [.str "in", nD lo, oD hi], nD n] μ = _
    refine call_of c_law_atom_holds rfl ?_
    refine run_nx (ifs_false (μ' := μ) (tv_bl (ev_cmp (ev_idx (ev_var rfl) ev_cst ix0) ev_cst w_in)) run_nil) ?_
    refine run_nx (ifs_false (μ' := μ) (tv_bl (ev_cmp (ev_idx (ev_var rfl) ev_cst ix0) ev_cst w_ir)) run_nil) (run_rt (st_ret ?_))
    have e1 : evalE (gg k) (.cmp .le (.idx (.var 0) (.cst (.int 1))) (.var 1)) (startR f_law_atom_holds.N.length [.tup [.str "in", nD lo, oD hi], nD n]) μ = .ok (.bl (decide (lo ≤ n))) μ := ev_cmp (ev_idx (ev_var rfl) ev_cst ix1) (ev_var rfl) le_nat
    by_cases z : lo ≤ n
    · rw [decide_eq_true z] at e1
      refine ev_and_t e1 rfl ?_
      cases hi with
      | none =>
        refine (ev_or_t (ev_cmp (ev_idx (ev_var rfl) ev_cst ix2) ev_cst (is_non (v := true) (.inl ⟨rfl, rfl⟩))) rfl).trans ?_
        show _ = Res.ok (D.bl (decide (lo ≤ n))) μ
        rw [decide_eq_true z]
      | some hi =>
        refine (ev_or_f (ev_cmp (ev_idx (ev_var rfl) ev_cst ix2) ev_cst (is_non (v := false) (.inr ⟨_, rfl, rfl⟩))) rfl (ev_cmp (ev_var rfl) (ev_idx (ev_var rfl) ev_cst ix2) le_nat)).trans ?_
        show _ = Res.ok (D.bl (decide (lo ≤ n) && decide (n ≤ hi))) μ
        rw [decide_eq_true z, Bool.true_and]
    · rw [decide_eq_false z] at e1
      refine (ev_and_f e1 rfl).trans ?_
      have : hAt (.inn lo hi) n = false := by
        cases hi with
        | none => exact decide_eq_false z
        | some hi => show (decide (lo ≤ n) && decide (n ≤ hi)) = false; rw [decide_eq_false z]; rfl
      rw [this]
theorem holds_atom {a : Bool × At} (ok : okAt a.2) {n : Nat} : (gg (k + 2)).call n_law_atom_holds [amD a, nD n] μ = .ok (.bl (hAm a n)) μ := by
  obtain ⟨s, a⟩ := a
  cases s with
  | false =>
    have : hAm (false, a) n = hAt a n := by show (false ^^ hAt a n) = _; simp
    rw [this]
    exact holds_plain (k := k + 1) ok
  | true =>
    have : hAm (true, a) n = !hAt a n := by show (true ^^ hAt a n) = _; simp
    rw [this]
    refine call_of c_law_atom_holds rfl ?_
    refine run_nx_rt (ifs_true (μ' := μ) (tv_bl (ev_cmp (ev_idx (ev_var rfl) ev_cst ix0) ev_cst w_nn)) (run_rt (st_ret ?_)))
    exact ev_notv (ev_call2 (ev_idx (ev_var rfl) ev_cst ix1) (ev_var rfl) (holds_plain (k := k) ok))
theorem eqOk_at (n : Nat) (a : At) : eqOk (n + 1) (atD a) = true := by
  have h1 : ("rest" : Str).cps.all (· < 0x110000) = true := by decide +kernel
  have h2 : ("in" : Str).cps.all (· < 0x110000) = true := by decide +kernel
  cases a with
  | rest m lo hi =>
    unfold atD
    simp only [eqOk, eqOks, Bool.and_true]
    cases n <;> simp only [eqOk, h1]
  | inn lo hi =>
    unfold atD
    cases hi <;> simp only [eqOk, eqOks, oD, Bool.and_true] <;> cases n <;> simp only [eqOk, h2]
theorem eqOk_am (n : Nat) (a : Bool × At) : eqOk (n + 2) (amD a) = true := by
  have h1 : ("not" : Str).cps.all (· < 0x110000) = true := by decide +kernel
  obtain ⟨s, a⟩ := a
  cases s with
  | false => exact eqOk_at (n + 1) a
  | true =>
    show eqOk (n + 2) (.tup [.str "not", atD a]) = true
    simp only [eqOk, eqOks, eqOk_at, h1, Bool.and_true]
theorem eqOks_map {α : Type} {a : α → D} {n : Nat} (h : ∀ x, eqOk n (a x) = true) : ∀ l : List α, eqOks n (l.map a) = true
  | [] => by unfold eqOks; rfl
  | x :: l => by rw [List.map_cons, eqOks, h x, eqOks_map h l]; rfl
theorem eq_nil_lst {l : List D} (h : eqOks 63 l = true) : cmpD .eq (.lst l) (.lst []) μ = .ok l.isEmpty μ := by
  show needs (eqOk 64 (.lst l) = true ∧ eqOk 64 (.lst []) = true) _ = _
  rw [needs_pos ⟨by rw [eqOk]; exact h, rfl⟩]
  cases l <;> rfl
theorem ne_nil_lst {l : List D} (h : eqOks 63 l = true) : cmpD .ne (.lst l) (.lst []) μ = .ok (!l.isEmpty) μ := by
  show needs (eqOk 64 (.lst l) = true ∧ eqOk 64 (.lst []) = true) _ = _
  rw [needs_pos ⟨by rw [eqOk]; exact h, rfl⟩]
  cases l <;> rfl
theorem filter_isEmpty {α : Type} {p : α → Bool} : ∀ {l : List α}, (l.filter fun x => !p x).isEmpty = l.all p
  | [] => rfl
  | x :: l => by
    rw [List.filter_cons, List.all_cons]
    cases p x
    · rfl
    · exact filter_isEmpty
theorem filter_any {α : Type} {p : α → Bool} : ∀ {l : List α}, (!(l.filter p).isEmpty) = l.any p
  | [] => rfl
  | x :: l => by
    rw [List.filter_cons, List.any_cons]
    cases p x
    · exact filter_any
    · rfl
/-- a small condition -/
def smCd (c : Cd) : Prop := c.length ≤ 10 ∧ ∀ as ∈ c, as.length ≤ 10
theorem number_holds {c : Cd} (ok : okCd c) (sm : smCd c) {n : Nat} : (gg (k + 3)).call n_law_number_holds [cdD c, nD n] μ = .ok (.bl (hCd c n)) μ := by
  refine call_of c_law_number_holds rfl (run_rt (st_ret ?_))
  have outer : evalE (gg (k + 2)) (.comp [2] (.nm 2) (.seq (.var 0)) (.val (.cmp .eq (.comp [3] (.nm 3) (.seq (.var 2)) (.not (.val (.call 26 (.cons (.var 3) (.cons (.var 1) .nil))))) (.var 3)) (.lst .nil))) (.var 2)) (startR f_law_number_holds.N.length [cdD c, nD n]) μ = .ok (.lst ((c.filter fun as => as.all fun a => hAm a n).map fun as => .tup (as.map amD))) μ := by
    refine ev_comp (it_tup (ev_var rfl)) (comp_filter (a := fun as : List (Bool × At) => D.tup (as.map amD)) (c := fun as => as.all fun a => hAm a n) (g := fun as => .tup (as.map amD)) (fun as has => ?_) (by have := sm.1; simp; omega))
    refine cbody_if (tv_bl ?_) (ev_var rfl)
    have inner : evalE (gg (k + 2)) (.comp [3] (.nm 3) (.seq (.var 2)) (.not (.val (.call 26 (.cons (.var 3) (.cons (.var 1) .nil))))) (.var 3)) ((wipeR (startR f_law_number_holds.N.length [cdD c, nD n]) [2]).set 2 (some (.tup (as.map amD)))) μ = .ok (.lst ((as.filter fun a => !hAm a n).map amD)) μ := by
      refine ev_comp (it_tup (ev_var rfl)) (comp_filter (a := amD) (c := fun a => !hAm a n) (g := amD) (fun a ha => ?_) (by have := sm.2 as has; simp; omega))
      exact cbody_if (tv_not (tv_bl (ev_call2 (ev_var rfl) (ev_var rfl) (holds_atom (k := k) (ok as has a ha))))) (ev_var rfl)
    refine ev_cmp inner ev_lst0 ((eq_nil_lst (eqOks_map (fun a => eqOk_am 61 a) _)).trans ?_)
    rw [map_isEmpty, filter_isEmpty]
  refine ev_cmp outer ev_lst0 ((ne_nil_lst (eqOks_map (fun as => ?_) _)).trans ?_)
  · rw [eqOk]; exact eqOks_map (fun a => eqOk_am 60 a) _
  · rw [map_isEmpty, filter_any]; rfl
theorem ev_lst2 {Γ : G} {ρ : Rho} {μ μ1 μ2 : Mu} {a b : E} {x y : D} (h : evalE Γ a ρ μ = .ok x μ1) (h2 : evalE Γ b ρ μ1 = .ok y μ2) : evalE Γ (.lst (.cons a (.cons b .nil))) ρ μ = .ok (.lst [x, y]) μ2 := by
  rw [evalE, evalEs, h, bind_ok, evalEs, h2, bind_ok, evalEs, bind_ok, bind_ok, bind_ok, needs_pos (by simp)]
theorem ix_last {l : List D} {d : D} {μ : Mu} : idxD (.tup (l ++ [d])) (.int (-1)) μ = .ok d μ := by
  have : atI (l ++ [d]) (-1) = some d := by
    unfold atI ixN
    rw [if_neg (by decide), if_pos (by simp; omega)]
    show (l ++ [d])[(-1 + ((l ++ [d]).length : Int)).toNat]? = _
    rw [List.length_append, List.length_singleton, show (-1 + ((l.length + 1 : Nat) : Int)).toNat = l.length by omega]
    simp
  show (match seqD μ (.tup (l ++ [d])) with
    | some l => match atI l (-1) with
      | some d => Res.ok d μ
      | none => .stuck
    | none => .stuck) = _
  simp only [seqD, this]
theorem ev_m1 {Γ : G} {ρ : Rho} {μ : Mu} : evalE Γ (.neg (.cst (.int 1))) ρ μ = .ok (.int (-1)) μ := by
  rw [evalE, ev_cst, bind_ok]
theorem bare_atom {a : Bool × At} : (gg (k + 1)).call n_law_bare_atom [amD a] μ = .ok (atD a.2) μ := by
  obtain ⟨s, a⟩ := a
  refine call_of c_law_bare_atom rfl (run_rt (st_ret ?_))
  cases s with
  | true =>
    exact ev_idx (ev_lst2 (ev_var rfl) (ev_idx (ev_var rfl) ev_m1 (ix_last (l := [.str "not"])))) (ev_bif1 (ev_cmp (ev_idx (ev_var rfl) ev_cst ix0) ev_cst w_nn) rfl) il1
  | false =>
    cases a with
    | rest m lo hi => exact ev_idx (ev_lst2 (ev_var rfl) (ev_idx (ev_var rfl) ev_m1 (ix_last (l := [.str "rest", nD m, nD lo])))) (ev_bif1 (ev_cmp (ev_idx (ev_var rfl) ev_cst ix0) ev_cst w_rn) rfl) il0
    | inn lo hi => exact ev_idx (ev_lst2 (ev_var rfl) (ev_idx (ev_var rfl) ev_m1 (ix_last (l := [.str "in", nD lo])))) (ev_bif1 (ev_cmp (ev_idx (ev_var rfl) ev_cst ix0) ev_cst w_in) rfl) il0
def ats (cs : List Cd) : List At := cs.flatMap fun c => c.flatMap fun as => as.map (·.2)
theorem add_lst {i j : List D} (h : i.length + j.length ≤ 16777216) : binD .add (.lst i) (.lst j) μ = .ok (.lst (i ++ j)) μ := by
  show needs (i.length + j.length ≤ 16777216) _ = _
  rw [needs_pos h]
theorem atoms_inner {x0 x2 : Option D} : ∀ (c : Cd) (acc : List At) (o3 o4 : Option D), acc.length + 10 * c.length ≤ 1000 → (∀ as ∈ c, as.length ≤ 10) →
    ∃ a b, forLoop (fbody (gg (k + 1)) (.nm 3) (forB (nthS (forB (nthS b_law_atoms 1)) 0))) (chkOf none) (c.map fun as => .tup (as.map amD)) [x0, some (.lst (acc.map atD)), x2, o3, o4] μ = .nx [x0, some (.lst ((acc ++ c.flatMap fun as => as.map (·.2)).map atD)), x2, a, b] μ
  | [], acc, o3, o4, _, _ => ⟨o3, o4, by rw [List.flatMap_nil, List.append_nil]; exact for_nil⟩
  | as :: c, acc, o3, o4, h1, h2 => by
    rw [List.length_cons] at h1
    have hl := h2 as (List.mem_cons_self ..)
    obtain ⟨a, b, e⟩ := atoms_inner c (acc ++ as.map (·.2)) (some (.tup (as.map amD))) o4 (by rw [List.length_append, List.length_map]; omega) fun q hq => h2 q (List.mem_cons_of_mem _ hq)
    refine ⟨a, b, ?_⟩
    rw [List.flatMap_cons, ← List.append_assoc, List.map_cons]
    refine for_cons_nx ?_ e
    rw [fbody_nm]
    refine run_nx (st_set (ev_bin (y := .lst ((as.map (·.2)).map atD)) (μ2 := μ) (ev_var rfl) ?_ ((add_lst (by simp; omega)).trans (by rw [List.map_append])))) run_nil
    rw [List.map_map]
    exact ev_comp (it_tup (ev_var rfl)) (comp_all (g := fun a : Bool × At => atD a.2) (fun a _ => cbody_nm (ev_call1 (ev_var rfl) (bare_atom (k := k)))) (by omega))
theorem atoms_ok {cs : List Cd} (hs : cs.length ≤ 5) (sm : ∀ c ∈ cs, smCd c) : (gg (k + 2)).call n_law_atoms [.lst (cs.map cdD)] μ = .ok (.lst ((ats cs).map atD)) μ := by
  have loop : ∀ (cs : List Cd) (acc : List At) (x0 o2 o3 o4 : Option D), acc.length + 100 * cs.length ≤ 900 → (∀ c ∈ cs, smCd c) → ∃ a b c, forLoop (fbody (gg (k + 1)) (.nm 2) (forB (nthS b_law_atoms 1))) (chkOf none) (cs.map cdD) [x0, some (.lst (acc.map atD)), o2, o3, o4] μ = .nx [x0, some (.lst ((acc ++ ats cs).map atD)), a, b, c] μ := by
    intro cs
    induction cs with
    | nil => intro acc x0 o2 o3 o4 _ _; exact ⟨o2, o3, o4, by unfold ats; rw [List.flatMap_nil, List.append_nil]; exact for_nil⟩
    | cons c cs ih =>
      intro acc x0 o2 o3 o4 h1 h2
      rw [List.length_cons] at h1
      have sc := h2 c (List.mem_cons_self ..)
      obtain ⟨a, b, e⟩ := atoms_inner (k := k) (μ := μ) (x0 := x0) (x2 := some (cdD c)) c acc o3 o4 (by have := sc.1; omega) sc.2
      have hlen : (c.flatMap fun as => as.map (·.2)).length ≤ 100 := by
        have : ∀ c : Cd, (∀ as ∈ c, as.length ≤ 10) → (c.flatMap fun as => as.map (·.2)).length ≤ 10 * c.length := by
          intro c
          induction c with
          | nil => intro _; exact Nat.zero_le _
          | cons as c ih =>
            intro h
            have h3 := ih fun q hq => h q (List.mem_cons_of_mem _ hq)
            have h4 := h as (List.mem_cons_self ..)
            rw [List.flatMap_cons, List.length_append, List.length_map, List.length_cons]
            omega
        have := this c sc.2
        have := sc.1
        omega
      obtain ⟨a', b', c', e'⟩ := ih (acc ++ c.flatMap fun as => as.map (·.2)) x0 (some (cdD c)) a b (by rw [List.length_append]; omega) fun q hq => h2 q (List.mem_cons_of_mem _ hq)
      refine ⟨a', b', c', ?_⟩
      have : ats (c :: cs) = (c.flatMap fun as => as.map (·.2)) ++ ats cs := by unfold ats; rw [List.flatMap_cons]
      rw [this, ← List.append_assoc, List.map_cons]
      refine for_cons_nx ?_ e'
      rw [fbody_nm]
      exact run_nx (for_run' (it_tup (ev_var rfl)) e) run_nil
  obtain ⟨a, b, c, e⟩ := loop cs [] (some (.lst (cs.map cdD))) none none none (by simp; omega) sm
  exact call_of c_law_atoms rfl (run_nx (st_set ev_lst0) (run_nx (for_run' (it_lst (ev_var rfl)) e) (run_rt (st_ret (ev_var rfl)))))
end
end PyI.K01
/-! Q15: the law's period and bound. -/
namespace PyI.K01
open PySem L2 PyProof.Rows
section
variable {k : Nat} {μ : Mu}
theorem lcm_by {a b i : Nat} (ha : 0 < a) (hb : 0 < b) (h : b ∣ a * (i + 1)) (hm : ∀ j, 1 ≤ j → j ≤ i → ¬ b ∣ a * j) : a * (i + 1) = Nat.lcm a b := by
  have h1 : Nat.lcm a b ∣ a * (i + 1) := Nat.lcm_dvd (Nat.dvd_mul_right a _) h
  have h2 : Nat.lcm a b ≤ a * (i + 1) := Nat.le_of_dvd (Nat.mul_pos ha (by omega)) h1
  obtain ⟨t, ht⟩ := Nat.dvd_lcm_left a b
  have hp : 0 < Nat.lcm a b := Nat.lcm_pos ha hb
  have h3 : b ∣ a * t := ht ▸ Nat.dvd_lcm_right a b
  have t0 : 1 ≤ t := by
    rcases Nat.eq_zero_or_pos t with e | e
    · rw [e, Nat.mul_zero] at ht; omega
    · exact e
  rcases Nat.lt_or_ge i t with q | q
  · have := Nat.mul_le_mul_left a (show i + 1 ≤ t by omega)
    omega
  · exact absurd h3 (hm t t0 q)
theorem common_ok {a b : Nat} (ha : 0 < a) (hb : 0 < b) (hb2 : b ≤ 1000) : (gg (k + 1)).call n_law_common [nD a, nD b] μ = .ok (nD (Nat.lcm a b)) μ := by
  obtain ⟨ρ', μ', e, m, o, rfl, rfl, h⟩ := for_range (f := fbody (gg k) (.nm 3) (forB (nthS b_law_common 1))) (lo := 0) (n := b) (ρ := [some (nD a), some (nD b), some (nD a), none]) (μ := μ)
    (fun i ρ ν => ∃ m o, ρ = [some (nD a), some (nD b), some (nD m), o] ∧ ν = μ ∧ (m = Nat.lcm a b ∨ (m = a * (i + 1) ∧ ∀ j, 1 ≤ j → j ≤ i → ¬ b ∣ a * j)))
    ⟨a, none, rfl, rfl, .inr ⟨by simp, fun j h1 h2 => by omega⟩⟩ (by
      rintro i hi ρ ν ⟨m, o, rfl, rfl, h⟩
      rw [fbody_nm]
      have test : evalT (gg k) (.val (.cmp .eq (.bin .mod (.bif .int (.cons (.var 2) .nil)) (.var 1)) (.cst (.int 0)))) ([some (nD a), some (nD b), some (nD m), o].set 3 (some (.int (0 + (i : Int))))) ν = .ok (decide (m % b = 0)) ν :=
        tv_bl (ev_cmp (ev_bin (ev_bif1 (ev_var rfl) int_int) (ev_var rfl) (mod_nat hb)) ev_cst (eq_nat (n := 0)))
      by_cases z : m % b = 0
      · rw [decide_eq_true z] at test
        refine .inr ⟨_, _, run_br (ifs_true test (run_br (ρ' := [some (nD a), some (nD b), some (nD m), some (.int (0 + (i : Int)))]) (μ' := ν) (by rw [runS]; rfl))), m, _, rfl, rfl, .inl ?_⟩
        rcases h with h | ⟨rfl, h⟩
        · exact h
        · exact lcm_by ha hb (Nat.dvd_of_mod_eq_zero z) h
      · rw [decide_eq_false z] at test
        refine .inl ⟨_, _, run_nx (ifs_false test run_nil) (run_nx (st_set (ev_bin (ev_var rfl) (ev_var rfl) add_nat)) run_nil), m + a, _, rfl, rfl, ?_⟩
        rcases h with rfl | ⟨rfl, h⟩
        · exact absurd (Nat.mod_eq_zero_of_dvd (Nat.dvd_lcm_right a b)) z
        · refine .inr ⟨by rw [Nat.mul_succ a (i + 1)], fun j h1 h2 => ?_⟩
          rcases Nat.lt_or_ge i j with q | q
          · rw [show j = i + 1 by omega]
            exact fun d => z (Nat.mod_eq_zero_of_dvd d)
          · exact h j h1 q)
  have hm : m = Nat.lcm a b := by
    rcases h with h | ⟨_, h⟩
    · exact h
    · exact absurd (Nat.dvd_mul_left b a) (h b hb (Nat.le_refl _))
  rw [← hm]
  exact call_of c_law_common rfl (run_nx (st_set (ev_var rfl)) (run_nx (for_run' (it_rng1 (n := b) (ev_var rfl) rfl (by omega)) e) (run_rt (st_ret (ev_var rfl)))))
theorem mod_ok {m : Nat} (h : m ∈ [2, 4, 5, 10, 20, 25, 100]) : 0 < m ∧ m ≤ 1000 ∧ m ∣ 100 := by
  simp only [List.mem_cons, List.not_mem_nil, or_false] at h
  rcases h with rfl | rfl | rfl | rfl | rfl | rfl | rfl <;> decide
def pOf : At → Nat → Prop
  | .rest m _ _, P => m ∣ P
  | .inn _ _, _ => True
theorem period_ok {cs : List Cd} (hs : cs.length ≤ 5) (sm : ∀ c ∈ cs, smCd c) (ok : ∀ a ∈ ats cs, okAt a) : ∃ P, 0 < P ∧ P ∣ 100 ∧ (∀ a ∈ ats cs, pOf a P) ∧ (gg (k + 3)).call n_law_period [.lst (cs.map cdD)] μ = .ok (nD P) μ := by
  have loop : ∀ (l : List At) (P : Nat) (x0 o2 : Option D), 0 < P → P ∣ 100 → (∀ a ∈ l, okAt a) → ∃ P' o, 0 < P' ∧ P' ∣ 100 ∧ P ∣ P' ∧ (∀ a ∈ l, pOf a P') ∧ forLoop (fbody (gg (k + 2)) (.nm 2) (forB (nthS b_law_period 1))) (chkOf none) (l.map atD) [x0, some (nD P), o2] μ = .nx [x0, some (nD P'), o] μ := by
    intro l
    induction l with
    | nil => intro P x0 o2 h1 h2 _; exact ⟨P, o2, h1, h2, Nat.dvd_refl _, (fun a h => nomatch h), for_nil⟩
    | cons a l ih =>
      intro P x0 o2 h1 h2 h3
      have oka := h3 a (List.mem_cons_self ..)
      cases a with
      | rest m lo hi =>
        obtain ⟨m1, m2, m3⟩ := mod_ok oka.1
        obtain ⟨P', o, q1, q2, q3, q4, q5⟩ := ih (Nat.lcm P m) x0 (some (atD (.rest m lo hi))) (Nat.lcm_pos h1 m1) (Nat.lcm_dvd h2 m3) fun a h => h3 a (List.mem_cons_of_mem _ h)
        refine ⟨P', o, q1, q2, Nat.dvd_trans (Nat.dvd_lcm_left P m) q3, fun a h => ?_, ?_⟩
        · rcases List.mem_cons.mp h with e | e
          · rw [e]; exact Nat.dvd_trans (Nat.dvd_lcm_right P m) q3
          · exact q4 a e
        · rw [List.map_cons]
          refine for_cons_nx ?_ q5
          rw [fbody_nm]
          exact run_nx (ifs_true (tv_bl (ev_cmp (ev_idx (ev_var rfl) ev_cst ix0) ev_cst w_rr)) (run_nx (st_set (ev_call2 (ev_var rfl) (ev_idx (ev_var rfl) ev_cst ix1) (common_ok (k := k + 1) h1 m1 m2))) run_nil)) run_nil
      | inn lo hi =>
        obtain ⟨P', o, q1, q2, q3, q4, q5⟩ := ih P x0 (some (atD (.inn lo hi))) h1 h2 fun a h => h3 a (List.mem_cons_of_mem _ h)
        refine ⟨P', o, q1, q2, q3, fun a h => ?_, ?_⟩
        · rcases List.mem_cons.mp h with e | e
          · rw [e]; trivial
          · exact q4 a e
        · rw [List.map_cons]
          refine for_cons_nx ?_ q5
          rw [fbody_nm]
          exact run_nx (ifs_false (tv_bl (ev_cmp (ev_idx (ev_var rfl) ev_cst ix0) ev_cst w_ir)) run_nil) run_nil
  obtain ⟨P, o, q1, q2, _, q4, q5⟩ := loop (ats cs) 1 (some (.lst (cs.map cdD))) none (by decide) (by decide) ok
  exact ⟨P, q1, q2, q4, call_of c_law_period rfl (run_nx (st_set ev_cst) (run_nx (for_run' (it_lst (ev_call1 (ev_var rfl) (atoms_ok (k := k) hs sm))) q5) (run_rt (st_ret (ev_var rfl)))))⟩
/-! ### the bound -/
theorem fin_more {d : D} {μ ν : Mu} (h : PureM μ) (hd : pureD d = true) : fin μ.length d (μ ++ ν) = .ok d μ := by
  have hb := pureD.below μ.length hd
  have hm : ((μ ++ ν).take μ.length).all (belowMO μ.length) = true := by rw [List.take_left']; exact h.all _; rfl
  have ht : (μ ++ ν).take μ.length = μ := List.take_left' rfl
  unfold fin
  by_cases z : (μ ++ ν).length = μ.length
  · rw [if_pos z]
    have : ν = [] := by
      rw [List.length_append] at z
      exact List.length_eq_zero_iff.mp (by omega)
    rw [this, List.append_nil]
  · rw [if_neg z]
    cases d with
    | ref k => cases hd
    | _ =>
      simp only []
      rw [if_pos ⟨hb, hm, by simp⟩, ht]
theorem call_more {k f : Nat} {b : B} {ρ : Rho} {ds : List D} {μ ν : Mu} {d : D} (hc : callD prg.tab prg.con prg.dic prg.wf (k + 1) f ds μ = finO μ.length (runB (gg k) b ρ μ)) (hμ : PureM μ) (hd : pureD d = true) (h : runB (gg k) b ρ μ = .rt d (μ ++ ν)) : (gg (k + 1)).call f ds μ = .ok d μ := by
  show callD prg.tab prg.con prg.dic prg.wf (k + 1) f ds μ = _
  rw [hc, h, finO_rt, fin_more hμ hd]
def bOf : At → List Nat → Prop
  | .rest _ _ _, _ => True
  | .inn lo none, fs => lo + 1 ∈ fs
  | .inn lo (some hi), fs => lo + 1 ∈ fs ∧ hi + 1 ∈ fs
theorem bOf.mono {a : At} {fs gs : List Nat} (h : bOf a fs) (hg : ∀ x ∈ fs, x ∈ gs) : bOf a gs := by
  cases a with
  | rest => trivial
  | inn lo hi =>
    cases hi with
    | none => exact hg _ h
    | some hi => exact ⟨hg _ h.1, hg _ h.2⟩
def bndOf : At → Nat → Prop
  | .rest _ _ _, _ => True
  | .inn lo none, B => lo < B
  | .inn lo (some hi), B => lo < B ∧ hi < B
theorem snoc_get' {μ : Mu} {m : MO} {n : Nat} (h : n = μ.length) : (μ ++ [m])[n]? = some m := by rw [h]; exact snoc_get
theorem bound_step {a : At} (oka : okAt a) {ν : Mu} {n : Nat} {fs : List Nat} {x0 o2 : Option D} (hn : (μ ++ ν)[n]? = some (.lst (fs.map nD))) (hl : fs.length ≤ 2000) :
    ∃ ν' n' fs' , (μ ++ ν')[n']? = some (.lst (fs'.map nD)) ∧ fs'.length ≤ fs.length + 2 ∧ (∀ x ∈ fs', x ∈ fs ∨ x ≤ 101) ∧ (∀ x ∈ fs, x ∈ fs') ∧ bOf a fs' ∧
      fbody (gg k) (.nm 2) (forB (nthS b_law_bound 1)) (atD a) [x0, some (.ref n), o2] (μ ++ ν) = .nx [x0, some (.ref n'), some (atD a)] (μ ++ ν') := by
  cases a with
  | rest m lo hi =>
    refine ⟨ν, n, fs, hn, by omega, fun x h => .inl h, fun x h => h, trivial, ?_⟩
    rw [fbody_nm]
    exact run_nx (ifs_false (tv_bl (ev_cmp (ev_idx (ev_var rfl) ev_cst ix0) ev_cst w_ri)) run_nil) run_nil
  | inn lo hi =>
    have lo1 : lo ≤ 100 := by
      cases hi with
      | none => exact oka
      | some hi => exact Nat.le_trans oka.1 oka.2
    have e1 : evalE (gg k) (.bin .add (.var 1) (.lst (.cons (.bin .add (.idx (.var 2) (.cst (.int 1))) (.cst (.int 1))) .nil))) ([x0, some (.ref n), o2].set 2 (some (atD (.inn lo hi)))) (μ ++ ν) = .ok (.lst ((fs ++ [lo + 1]).map nD)) (μ ++ ν) := by
      refine ev_bin (ev_var rfl) (ev_lst1 (ev_bin (ev_idx (ev_var rfl) ev_cst ix1) ev_cst (add_nat (n := 1)))) ?_
      have h1 : lstD (μ ++ ν) (.ref n) = some (fs.map nD) := by unfold lstD; simp only [hn]
      show (match lstD (μ ++ ν) (.ref n), lstD (μ ++ ν) (.lst [nD (lo + 1)]) with
        | some i, some j => needs (i.length + j.length ≤ 16777216) (Res.ok (D.lst (i ++ j)) (μ ++ ν))
        | _, _ => .stuck) = _
      rw [h1]
      show needs _ _ = _
      rw [needs_pos (by rw [List.length_map, List.length_singleton]; omega), List.map_append]
      rfl
    cases hi with
    | none =>
      refine ⟨ν ++ [.lst ((fs ++ [lo + 1]).map nD)], (μ ++ ν).length, fs ++ [lo + 1], by rw [← List.append_assoc]; exact snoc_get, by simp, fun x h => ?_, fun x h => List.mem_append_left _ h, List.mem_append_right _ (List.mem_singleton_self _), ?_⟩
      · rcases List.mem_append.mp h with q | q
        · exact .inl q
        · rw [List.mem_singleton.mp q]; exact .inr (by omega)
      · rw [fbody_nm, ← List.append_assoc]
        refine run_nx (ifs_true (tv_bl (ev_cmp (ev_idx (ev_var rfl) ev_cst ix0) ev_cst w_ii)) (run_nx (st_new e1) (run_nx (ifs_false (tv_bl (ev_cmp (ev_idx (ev_var rfl) ev_cst ix2) ev_cst rfl)) run_nil) run_nil))) run_nil
    | some hi =>
      have hi1 : hi ≤ 100 := oka.2
      refine ⟨ν ++ [.lst ((fs ++ [lo + 1] ++ [hi + 1]).map nD)], (μ ++ ν).length, fs ++ [lo + 1] ++ [hi + 1], by rw [← List.append_assoc]; exact snoc_get, by simp, fun x h => ?_, fun x h => List.mem_append_left _ (List.mem_append_left _ h), ⟨List.mem_append_left _ (List.mem_append_right _ (List.mem_singleton_self _)), List.mem_append_right _ (List.mem_singleton_self _)⟩, ?_⟩
      · rcases List.mem_append.mp h with q | q
        · rcases List.mem_append.mp q with q | q
          · exact .inl q
          · rw [List.mem_singleton.mp q]; exact .inr (by omega)
        · rw [List.mem_singleton.mp q]; exact .inr (by omega)
      · rw [fbody_nm, ← List.append_assoc]
        refine run_nx (ifs_true (tv_bl (ev_cmp (ev_idx (ev_var rfl) ev_cst ix0) ev_cst w_ii)) (run_nx (st_new e1) (run_nx (ifs_true (tv_bl (ev_cmp (ev_idx (ev_var rfl) ev_cst ix2) ev_cst rfl)) (run_nx (st_append (ev_var rfl) (ev_bin (ev_idx (ev_var rfl) ev_cst ix2) ev_cst (add_nat (n := 1))) snoc_get (by rw [List.length_map, List.length_append, List.length_singleton]; omega) ?_ snoc_get) run_nil)) run_nil))) run_nil
        rw [snoc_set, List.map_append (l₁ := fs ++ [lo + 1])]
        rfl
theorem bound_ok {cs : List Cd} (hs : cs.length ≤ 5) (sm : ∀ c ∈ cs, smCd c) (ok : ∀ a ∈ ats cs, okAt a) (hln : (ats cs).length ≤ 900) (hμ : PureM μ) : ∃ B, B ≤ 101 ∧ (∀ a ∈ ats cs, bndOf a B) ∧ (gg (k + 3)).call n_law_bound [.lst (cs.map cdD)] μ = .ok (nD B) μ := by
  have loop : ∀ (l : List At) (ν : Mu) (n : Nat) (fs : List Nat) (x0 o2 : Option D), (μ ++ ν)[n]? = some (.lst (fs.map nD)) → fs.length + 2 * l.length ≤ 2000 → (∀ a ∈ l, okAt a) →
      ∃ ν' n' fs' o, (μ ++ ν')[n']? = some (.lst (fs'.map nD)) ∧ (∀ x ∈ fs', x ∈ fs ∨ x ≤ 101) ∧ (∀ x ∈ fs, x ∈ fs') ∧ (∀ a ∈ l, bOf a fs') ∧
        forLoop (fbody (gg (k + 2)) (.nm 2) (forB (nthS b_law_bound 1))) (chkOf none) (l.map atD) [x0, some (.ref n), o2] (μ ++ ν) = .nx [x0, some (.ref n'), o] (μ ++ ν') := by
    intro l
    induction l with
    | nil => intro ν n fs x0 o2 h1 _ _; exact ⟨ν, n, fs, o2, h1, fun x h => .inl h, fun x h => h, (fun a h => nomatch h), for_nil⟩
    | cons a l ih =>
      intro ν n fs x0 o2 h1 h2 h3
      rw [List.length_cons] at h2
      obtain ⟨ν1, n1, fs1, q1, q2, q3, q4, q5, q6⟩ := bound_step (k := k + 2) (x0 := x0) (o2 := o2) (h3 a (List.mem_cons_self ..)) h1 (by omega)
      obtain ⟨ν2, n2, fs2, o, r1, r2, r3, r4, r5⟩ := ih ν1 n1 fs1 x0 (some (atD a)) q1 (by omega) fun b h => h3 b (List.mem_cons_of_mem _ h)
      refine ⟨ν2, n2, fs2, o, r1, fun x h => ?_, fun x h => r3 x (q4 x h), fun b h => ?_, ?_⟩
      · rcases r2 x h with q | q
        · exact q3 x q
        · exact .inr q
      · rcases List.mem_cons.mp h with e | e
        · rw [e]; exact q5.mono r3
        · exact r4 b e
      · rw [List.map_cons]; exact for_cons_nx q6 r5
  obtain ⟨ν, n, fs, o, h1, h2, h3, h4, h5⟩ := loop (ats cs) [.lst [nD 0]] μ.length [0] (some (.lst (cs.map cdD))) none snoc_get (by rw [List.length_singleton]; omega) ok
  have hne : fs.map (fun n : Nat => (n : Int)) ≠ [] := by
    intro e
    have := h3 0 (List.mem_singleton_self _)
    rw [List.map_eq_nil_iff.mp e] at this
    cases this
  obtain ⟨B, hB, eB⟩ := List.mem_map.mp (maxL_mem hne)
  have ge : ∀ x ∈ fs, x ≤ B := fun x hx => by
    have := maxL_ge (l := fs.map (fun n : Nat => (n : Int))) x (List.mem_map_of_mem hx)
    omega
  refine ⟨B, ?_, fun a ha => ?_, ?_⟩
  · rcases h2 B hB with q | q
    · rw [List.mem_singleton.mp q]; decide
    · exact q
  · have := h4 a ha
    cases a with
    | rest => trivial
    | inn lo hi =>
      cases hi with
      | none => have := ge _ this; show lo < B; omega
      | some hi =>
        have a1 := ge _ this.1
        have a2 := ge _ this.2
        exact ⟨by omega, by omega⟩
  · refine call_more (ν := ν) c_law_bound hμ rfl (run_nx (st_new (ev_lst1 ev_cst)) (run_nx (for_run' (it_lst (ev_call1 (ev_var rfl) (atoms_ok (k := k) hs sm))) h5) (run_rt (st_ret (ev_bif1 (ev_var rfl) ?_)))))
    have e1 : (lstD (μ ++ ν) (.ref n)).bind intsOf = some (fs.map (fun n : Nat => (n : Int))) := by
      have : lstD (μ ++ ν) (.ref n) = some (fs.map nD) := by unfold lstD; simp only [h1]
      rw [this, ← ints_map, List.map_map]
      rfl
    show (match (lstD (μ ++ ν) (.ref n)).bind intsOf with
      | some l => needs (0 < l.length) (Res.ok (D.int (maxL l)) (μ ++ ν))
      | none => .stuck) = _
    rw [e1]
    show needs _ _ = _
    rw [needs_pos (List.length_pos_iff.mpr hne), ← eB]
    rfl
end
end PyI.K01
/-! Q16: the law's set of flags. -/
namespace PyI.K01
open PySem L2 PyProof.Rows
def flD (f : Nat → Bool) (n : Nat) : D := .bl (f n)
def flags (f : Nat → Bool) (many : Nat) : D := .lst ((List.range many).map (flD f))
theorem flag_at {f : Nat → Bool} {many n : Nat} {μ : Mu} (h : n < many) : idxD (flags f many) (nD n) μ = .ok (.bl (f n)) μ := by
  refine ix_lst ?_
  rw [List.getElem?_map, List.getElem?_range h]
  rfl
theorem ne_bl {a b : Bool} {μ : Mu} : cmpD .ne (.bl a) (.bl b) μ = .ok (a != b) μ := by
  show needs _ _ = _
  rw [needs_pos ⟨rfl, rfl⟩]
  rfl
theorem sorted_first {l : List Nat} {p : Nat} (hl : l.Pairwise (· < ·)) (hp : p ∈ l) (hm : ∀ q ∈ l, p ≤ q) : ∃ t, l = p :: t := by
  cases l with
  | nil => cases hp
  | cons a t =>
    rcases List.mem_cons.mp hp with e | e
    · exact ⟨t, by rw [e]⟩
    · have h1 := (List.pairwise_cons.mp hl).1 p e
      have h2 := hm a (List.mem_cons_self ..)
      omega
theorem sub_one {m : Nat} {μ : Mu} (h : 0 < m) : binD .sub (nD m) (.int 1) μ = .ok (nD (m - 1)) μ := sub_nat (n := 1) h
section
variable {k : Nat} {μ : Mu} {f : Nat → Bool} {B P p s : Nat}
theorem steps_ok (h : Rp f B P p s) (hB : B ≤ 200) {x3 x4 x5 x6 x7 x8 x9 x10 : Option D} :
    evalE (gg k) (.comp [10] (.nm 10) (.rng2 (.cst (.int 1)) (.bin .add (.var 2) (.cst (.int 1)))) (.and (.val (.cmp .eq (.bin .mod (.bif .int (.cons (.var 2) .nil)) (.var 10)) (.cst (.int 0)))) (.val (.cmp .eq (.comp [8] (.nm 8) (.rng2 (.var 1) (.bin .add (.var 1) (.var 2))) (.val (.cmp .ne (.idx (.var 0) (.var 8)) (.idx (.var 0) (.bin .add (.var 8) (.var 10))))) (.var 8)) (.lst .nil)))) (.var 10))
      [some (flags f (B + 3 * P)), some (nD B), some (nD P), x3, x4, x5, x6, x7, x8, x9, x10] μ = .ok (.lst (((List.range' 1 P).filter fun q => decide (P % q = 0) && ((List.range' B P).filter fun n => f n != f (n + q)).isEmpty).map nD)) μ := by
  have hP : P ≤ 100 := Nat.le_of_dvd (by decide) h.dv
  refine ev_comp (ds := (List.range' 1 P).map nD) ((it_rng2 (n := 1) (m := P) ev_cst (ev_bin (ev_var rfl) ev_cst (add_nat (n := 1))) rfl (by rw [Nat.add_comm]) (by omega)).trans (by exact congrArg (fun l => Res.ok (l, none) μ) (rngN 1 P))) (comp_filter (c := fun q => decide (P % q = 0) && ((List.range' B P).filter fun n => f n != f (n + q)).isEmpty) (g := nD) (fun q hq => ?_) (by simp; omega))
  have hq' := List.mem_range'_1.mp hq
  refine cbody_if ?_ (ev_var rfl)
  have t1 : evalT (gg k) (.val (.cmp .eq (.bin .mod (.bif .int (.cons (.var 2) .nil)) (.var 10)) (.cst (.int 0)))) ((wipeR [some (flags f (B + 3 * P)), some (nD B), some (nD P), x3, x4, x5, x6, x7, x8, x9, x10] [10]).set 10 (some (nD q))) μ = .ok (decide (P % q = 0)) μ :=
    tv_bl (ev_cmp (ev_bin (ev_bif1 (ev_var rfl) int_int) (ev_var rfl) (mod_nat (by omega))) ev_cst (eq_nat (n := 0)))
  rw [evalT, t1, bind_ok]
  by_cases z : P % q = 0
  · rw [decide_eq_true z, if_pos rfl]
    have inner : evalE (gg k) (.comp [8] (.nm 8) (.rng2 (.var 1) (.bin .add (.var 1) (.var 2))) (.val (.cmp .ne (.idx (.var 0) (.var 8)) (.idx (.var 0) (.bin .add (.var 8) (.var 10))))) (.var 8)) ((wipeR [some (flags f (B + 3 * P)), some (nD B), some (nD P), x3, x4, x5, x6, x7, x8, x9, x10] [10]).set 10 (some (nD q))) μ = .ok (.lst (((List.range' B P).filter fun n => f n != f (n + q)).map nD)) μ := by
      refine ev_comp (ds := (List.range' B P).map nD) ((it_rng2 (n := B) (m := P) (ev_var rfl) (ev_bin (ev_var rfl) (ev_var rfl) add_nat) rfl rfl (by omega)).trans (by rw [rngN])) (comp_filter (c := fun n => f n != f (n + q)) (g := nD) (fun n hn => ?_) (by simp; omega))
      have hn' := List.mem_range'_1.mp hn
      exact cbody_if (tv_bl (ev_cmp (ev_idx (ev_var rfl) (ev_var rfl) (flag_at (by omega))) (ev_idx (ev_var rfl) (ev_bin (ev_var rfl) (ev_var rfl) add_nat) (flag_at (by omega))) ne_bl)) (ev_var rfl)
    rw [tv_bl (ev_cmp inner ev_lst0 (eq_nil_lst (eqOks_map (fun _ => rfl) _)))]
    rw [map_isEmpty]; rfl
  · rw [decide_eq_false z, if_neg (by decide)]; rfl
theorem steps_first (h : Rp f B P p s) : ∃ t, ((List.range' 1 P).filter fun q => decide (P % q = 0) && ((List.range' B P).filter fun n => f n != f (n + q)).isEmpty) = p :: t := by
  have hp := h.lp.pos
  have hle : p ≤ P := Nat.le_of_dvd h.pos h.dvd
  refine sorted_first (List.Pairwise.filter _ (List.pairwise_lt_range' ..)) (List.mem_filter.mpr ⟨List.mem_range'_1.mpr ⟨hp, by omega⟩, ?_⟩) fun q hq => ?_
  · rw [decide_eq_true (Nat.mod_eq_zero_of_dvd h.dvd), Bool.true_and, List.isEmpty_iff, List.filter_eq_nil_iff]
    intro n hn
    have hn' := List.mem_range'_1.mp hn
    rw [h.lp.per n hn'.1]; simp
  · obtain ⟨q1, q2⟩ := List.mem_filter.mp hq
    rw [Bool.and_eq_true] at q2
    have q1' := List.mem_range'_1.mp q1
    have hd := Nat.dvd_of_mod_eq_zero (of_decide_eq_true q2.1)
    rw [List.isEmpty_iff, List.filter_eq_nil_iff] at q2
    refine h.lp.least q (by omega) fun n hn => ?_
    -- n stands for B + (n - B) % P
    have e1 : f n = f (B + (n - B) % P) := Per.at h.per hn (by omega) (by
      have := Nat.div_add_mod (n - B) P
      have e0 : (B + (n - B) % P) + P * ((n - B) / P) = n := by omega
      have e9 := Nat.add_mul_mod_self_left (B + (n - B) % P) P ((n - B) / P)
      rw [e0] at e9
      exact e9)
    have e2 : f (n + q) = f (B + (n - B) % P + q) := Per.at h.per (by omega) (by omega) (by
      have := Nat.div_add_mod (n - B) P
      have e0 : (B + (n - B) % P + q) + P * ((n - B) / P) = n + q := by omega
      have e9 := Nat.add_mul_mod_self_left (B + (n - B) % P + q) P ((n - B) / P)
      rw [e0] at e9
      exact e9)
    have hr := Nat.mod_lt (n - B) h.pos
    have := q2.2 (B + (n - B) % P) (List.mem_range'_1.mpr ⟨by omega, by omega⟩)
    rw [e1, e2]
    simp only [bne_iff_ne, ne_eq, Decidable.not_not] at this
    exact this.symm
theorem start_loop (h : Rp f B P p s) (hB : B ≤ 200) {x1 x2 x3 x7 x8 x9 x10 : Option D} :
    ∃ o, forLoop (fbody (gg k) (.nm 6) (forB (nthS b_law_set_of_flags 3))) (chkOf none) (rngD 0 B) [some (flags f (B + 3 * P)), x1, x2, x3, some (nD p), some (nD B), none, x7, x8, x9, x10] μ = .nx [some (flags f (B + 3 * P)), x1, x2, x3, some (nD p), some (nD s), o, x7, x8, x9, x10] μ := by
  have hsB := h.start
  have hpP : p ≤ P := Nat.le_of_dvd h.pos h.dvd
  obtain ⟨ρ', μ', e, σ, o, rfl, rfl, h1, h2, h3⟩ := for_range (f := fbody (gg k) (.nm 6) (forB (nthS b_law_set_of_flags 3))) (lo := 0) (n := B) (ρ := [some (flags f (B + 3 * P)), x1, x2, x3, some (nD p), some (nD B), none, x7, x8, x9, x10]) (μ := μ)
    (fun i ρ ν => ∃ σ o, ρ = [some (flags f (B + 3 * P)), x1, x2, x3, some (nD p), some (nD σ), o, x7, x8, x9, x10] ∧ ν = μ ∧ s ≤ σ ∧ (i < B → σ = B - i) ∧ (i = B → σ = s))
    ⟨B, none, rfl, rfl, hsB, fun _ => rfl, fun e => by omega⟩ (by
      rintro i hi ρ ν ⟨σ, o, rfl, rfl, h1, h2, _⟩
      have hσ := h2 hi
      have h0 : 0 < σ := by omega
      rw [fbody_nm]
      have test : evalT (gg k) (.val (.cmp .ne (.idx (.var 0) (.bin .sub (.var 5) (.cst (.int 1)))) (.idx (.var 0) (.bin .add (.bin .sub (.var 5) (.cst (.int 1))) (.var 4))))) ([some (flags f (B + 3 * P)), x1, x2, x3, some (nD p), some (nD σ), o, x7, x8, x9, x10].set 6 (some (.int (0 + (i : Int))))) ν = .ok (f (σ - 1) != f (σ - 1 + p)) ν :=
        tv_bl (ev_cmp (ev_idx (ev_var rfl) (ev_bin (ev_var rfl) ev_cst (sub_one h0)) (flag_at (by omega))) (ev_idx (ev_var rfl) (ev_bin (ev_bin (ev_var rfl) ev_cst (sub_one h0)) (ev_var rfl) add_nat) (flag_at (by omega))) ne_bl)
      by_cases z : σ = s
      · have hne : (f (σ - 1) != f (σ - 1 + p)) = true := by
          rcases h.ls.least with e | e
          · omega
          · rw [bne_iff_ne, z]; exact fun q => e q.symm
        rw [hne] at test
        exact .inr ⟨_, _, run_br (ifs_true test (run_br (ρ' := [some (flags f (B + 3 * P)), x1, x2, x3, some (nD p), some (nD σ), some (.int (0 + (i : Int))), x7, x8, x9, x10]) (μ' := ν) (by rw [runS]; rfl))), σ, _, rfl, rfl, h1, fun e => by omega, fun _ => z⟩
      · have heq : (f (σ - 1) != f (σ - 1 + p)) = false := by
          rw [h.ls.per (σ - 1) (by omega)]; simp
        rw [heq] at test
        exact .inl ⟨_, _, run_nx (ifs_false test run_nil) (run_nx (st_set (ev_bin (ev_var rfl) ev_cst (sub_one h0))) run_nil), σ - 1, _, rfl, rfl, by omega, fun _ => by omega, fun _ => by omega⟩)
  rw [h3 rfl] at e
  exact ⟨o, e⟩
theorem ixN_last {n : Nat} : ixN (n + 1) (-1) = some n := by
  unfold ixN
  rw [if_neg (by decide), if_pos (by omega)]
  congr 1
  omega
theorem ev_ref_last {Γ : G} {ρ : Rho} {ν : Mu} {i n : Nat} {l : List D} {d : D} (h : ρ[i]? = some (some (.ref n))) (hn : ν[n]? = some (.lst (l ++ [d]))) : evalE Γ (.idx (.var i) (.neg (.cst (.int 1)))) ρ ν = .ok d ν := by
  refine ev_idx (ev_var h) ev_m1 ?_
  have e1 : seqD ν (.ref n) = some (l ++ [d]) := by unfold seqD; simp only [hn]
  have e2 : atI (l ++ [d]) (-1) = some d := by
    unfold atI
    rw [List.length_append, List.length_singleton, ixN_last]
    show (l ++ [d])[l.length]? = _
    simp
  show (match seqD ν (.ref n) with
    | some l => match atI l (-1) with
      | some d => Res.ok d ν
      | none => .stuck
    | none => .stuck) = _
  simp only [e1, e2]
theorem runs_step (h : Rp f B P p s) (hB : B ≤ 200) {n : Nat} (hn : n < s) {x1 x2 x3 x4 x5 x6 x8 x9 x10 : Option D} :
    fbody (gg k) (.nm 8) (forB (nthS b_law_set_of_flags 5)) (nD n) [some (flags f (B + 3 * P)), x1, x2, x3, x4, x5, x6, some (.ref μ.length), x8, x9, x10] (μ ++ [.lst ((runs f n).map prD)]) = .nx [some (flags f (B + 3 * P)), x1, x2, x3, x4, x5, x6, some (.ref μ.length), some (nD n), x9, x10] (μ ++ [.lst ((runs f (n + 1)).map prD)]) := by
  have hsB := h.start
  have hlen := runs_len f n
  rw [fbody_nm]
  have t1 : evalT (gg k) (.val (.idx (.var 0) (.var 8))) [some (flags f (B + 3 * P)), x1, x2, x3, x4, x5, x6, some (.ref μ.length), some (nD n), x9, x10] (μ ++ [.lst ((runs f n).map prD)]) = .ok (f n) (μ ++ [.lst ((runs f n).map prD)]) := tv_bl (ev_idx (ev_var rfl) (ev_var rfl) (flag_at (by omega)))
  have t2 : evalT (gg k) (.val (.cmp .eq (.var 8) (.cst (.int 0)))) [some (flags f (B + 3 * P)), x1, x2, x3, x4, x5, x6, some (.ref μ.length), some (nD n), x9, x10] (μ ++ [.lst ((runs f n).map prD)]) = .ok (decide (n = 0)) (μ ++ [.lst ((runs f n).map prD)]) := tv_bl (ev_cmp (ev_var rfl) ev_cst (eq_nat (n := 0)))
  show runB (gg k) (forB (nthS b_law_set_of_flags 5)) [some (flags f (B + 3 * P)), x1, x2, x3, x4, x5, x6, some (.ref μ.length), some (nD n), x9, x10] _ = _
  rw [runs]
  cases hf : f n with
  | false =>
    rw [hf] at t1
    rw [if_neg (by decide)]
    refine run_nx (ifs_false (μ' := μ ++ [.lst ((runs f n).map prD)]) ?_ (run_nx (ifs_false t1 run_nil) run_nil)) run_nil
    rw [evalT, t1, bind_ok, if_neg (by decide)]
  | true =>
    rw [hf] at t1
    rw [if_pos rfl]
    by_cases q : n = 0 ∨ f (n - 1) = false
    · rw [if_pos q]
      refine run_nx (ifs_true (μ' := μ ++ [.lst ((runs f n).map prD)]) ?_ (run_nx (st_append (ev_var rfl) (ev_tup2 (ev_var rfl) (ev_var rfl)) snoc_get (by rw [List.length_map]; omega) ?_ snoc_get) run_nil)) run_nil
      · rw [evalT, t1, bind_ok, if_pos rfl, evalT, t2, bind_ok]
        by_cases z : n = 0
        · rw [decide_eq_true z, if_pos rfl]
        · rw [decide_eq_false z, if_neg (by decide)]
          have q' : f (n - 1) = false := by
            rcases q with q | q
            · exact absurd q z
            · exact q
          have := tv_not (tv_bl (ev_idx (Γ := gg k) (ρ := [some (flags f (B + 3 * P)), x1, x2, x3, x4, x5, x6, some (.ref μ.length), some (nD n), x9, x10]) (μ := μ ++ [.lst ((runs f n).map prD)]) (a := .var 0) (b := .bin .sub (.var 8) (.cst (.int 1))) (ev_var rfl) (ev_bin (ev_var rfl) ev_cst (sub_one (by omega))) (flag_at (f := f) (many := B + 3 * P) (n := n - 1) (by omega))))
          rw [q'] at this
          exact this
      · rw [snoc_set, List.map_append]; rfl
    · rw [if_neg q]
      have hn0 : n ≠ 0 := fun e => q (.inl e)
      have hf1 : f (n - 1) = true := by
        cases w : f (n - 1) with
        | true => rfl
        | false => exact absurd (.inr w) q
      obtain ⟨l', a, e⟩ := (runs_ok f n).last (n - 1) (by omega) hf1
      have eg : (μ ++ [MO.lst ((runs f n).map prD)])[μ.length]? = some (.lst (l'.map prD ++ [prD (a, n - 1)])) := by rw [snoc_get, e, List.map_append]; rfl
      rw [e] at t1 t2 eg ⊢
      rw [List.dropLast_concat, List.getLastD_concat]
      refine run_nx (ifs_false (μ' := μ ++ [.lst ((l' ++ [(a, n - 1)]).map prD)]) ?_ (run_nx (ifs_true t1 (run_nx ?_ run_nil)) run_nil)) run_nil
      · rw [evalT, t1, bind_ok, if_pos rfl, evalT, t2, bind_ok, decide_eq_false hn0, if_neg (by decide)]
        have := tv_not (tv_bl (ev_idx (Γ := gg k) (ρ := [some (flags f (B + 3 * P)), x1, x2, x3, x4, x5, x6, some (.ref μ.length), some (nD n), x9, x10]) (μ := μ ++ [.lst ((l' ++ [(a, n - 1)]).map prD)]) (a := .var 0) (b := .bin .sub (.var 8) (.cst (.int 1))) (ev_var rfl) (ev_bin (ev_var rfl) ev_cst (sub_one (by omega))) (flag_at (f := f) (many := B + 3 * P) (n := n - 1) (by omega))))
        rw [hf1] at this
        exact this
      · have e1 := ev_ref_last (Γ := gg k) (ρ := [some (flags f (B + 3 * P)), x1, x2, x3, x4, x5, x6, some (.ref μ.length), some (nD n), x9, x10]) (i := 7) rfl eg
        have e2 : evalE (gg k) (.tup (.cons (.idx (.idx (.var 7) (.neg (.cst (.int 1)))) (.cst (.int 0))) (.cons (.var 8) .nil))) [some (flags f (B + 3 * P)), x1, x2, x3, x4, x5, x6, some (.ref μ.length), some (nD n), x9, x10] (μ ++ [.lst ((l' ++ [(a, n - 1)]).map prD)]) = .ok (prD (a, n)) (μ ++ [.lst ((l' ++ [(a, n - 1)]).map prD)]) := ev_tup2 (ev_idx e1 ev_cst ix0) (ev_var rfl)
        rw [runS, e2, then_ok, ev_var (d := .ref μ.length) rfl, then_ok, ev_m1, then_ok]
        have e3 : setIxD (.ref μ.length) (.int (-1)) (prD (a, n)) (μ ++ [.lst ((l' ++ [(a, n - 1)]).map prD)]) = .ok () (μ ++ [.lst ((l' ++ [(a, n)]).map prD)]) := by
          unfold setIxD
          simp only [eg]
          rw [List.length_append, List.length_singleton, ixN_last]
          simp only
          rw [snoc_set, List.map_append]
          simp
        rw [e3, then_ok]
end
end PyI.K01
/-! Q17: the law's set of flags is the one set; conditions repeat. -/
namespace PyI.K01
open PySem L2 PyProof.Rows
section
variable {k : Nat} {μ : Mu} {f : Nat → Bool} {B P p s : Nat}
theorem rest_list (h : Rp f B P p s) : sortI ((((List.range' s p).filter f).map fun n => n % p).map fun n : Nat => (n : Int)) = (rests f p).map fun n : Nat => (n : Int) := by
  have hp := h.lp.pos
  have perm : (((List.range' s p).filter f).map fun n => n % p).Perm (rests f p) := by
    refine (List.perm_ext_iff_of_nodup ?_ ?_).mpr fun r => ?_
    · rw [List.nodup_iff_pairwise_ne, List.pairwise_map]
      refine List.Pairwise.imp_of_mem ?_ (List.Pairwise.filter f (List.pairwise_lt_range' (s := s) (n := p) (step := 1)))
      intro a b ha hb hab
      have ha' := List.mem_range'_1.mp (List.mem_filter.mp ha).1
      have hb' := List.mem_range'_1.mp (List.mem_filter.mp hb).1
      intro e
      have d := Nat.dvd_of_mod_eq_zero (Nat.sub_mod_eq_zero_of_mod_eq e.symm)
      have := Nat.le_of_dvd (by omega) d
      omega
    · exact (rests_up f p).imp fun h => by omega
    · rw [List.mem_map, mem_rests]
      constructor
      · rintro ⟨n, hn, rfl⟩
        obtain ⟨h1, h2⟩ := List.mem_filter.mp hn
        have h1' := List.mem_range'_1.mp h1
        exact ⟨Nat.mod_lt _ hp, by rw [← h.bit h1'.1]; exact h2⟩
      · rintro ⟨h1, h2⟩
        have hm : s % p < p := Nat.mod_lt s hp
        have key : ∃ j, j < p ∧ (s + j) % p = r := by
          rcases Nat.lt_or_ge r (s % p) with q | q
          · refine ⟨p + r - s % p, by omega, ?_⟩
            rw [off_mod2 hp (by omega) (by omega)]; omega
          · refine ⟨r - s % p, by omega, ?_⟩
            rw [off_mod hp (by omega)]; omega
        obtain ⟨j, hj, e⟩ := key
        refine ⟨s + j, List.mem_filter.mpr ⟨List.mem_range'_1.mpr ⟨by omega, by omega⟩, ?_⟩, e⟩
        rw [h.bit (by omega), e]; exact h2
  refine List.Perm.eq_of_pairwise (fun a b _ _ h1 h2 => Int.le_antisymm h1 h2) (sortI_up _) ?_ ((sortI_perm _).trans (perm.map _))
  rw [List.pairwise_map]
  exact (rests_up f p).imp fun h => by omega
theorem sorted_lst {l : List Int} : bifD .sorted [.lst (l.map D.int)] μ = .ok (.lst ((sortI l).map D.int)) μ := by
  show (match (lstD μ (.lst (l.map D.int))).bind intsOf with
    | some l => Res.ok (D.lst ((sortI l).map D.int)) μ
    | none => .stuck) = _
  have : (lstD μ (.lst (l.map D.int))).bind intsOf = some l := ints_map l
  rw [this]
theorem nD_int (l : List Nat) : l.map nD = (l.map fun n : Nat => (n : Int)).map D.int := by rw [List.map_map]; rfl
theorem runs_loop (h : Rp f B P p s) (hB : B ≤ 200) {x1 x2 x3 x4 x5 x6 x9 x10 : Option D} :
    ∃ o, forLoop (fbody (gg k) (.nm 8) (forB (nthS b_law_set_of_flags 5))) (chkOf none) (rngD 0 s) [some (flags f (B + 3 * P)), x1, x2, x3, x4, x5, x6, some (.ref μ.length), none, x9, x10] (μ ++ [.lst []]) = .nx [some (flags f (B + 3 * P)), x1, x2, x3, x4, x5, x6, some (.ref μ.length), o, x9, x10] (μ ++ [.lst ((runs f s).map prD)]) := by
  obtain ⟨ρ', μ', e, o, rfl, rfl⟩ := for_range (f := fbody (gg k) (.nm 8) (forB (nthS b_law_set_of_flags 5))) (lo := 0) (n := s) (ρ := [some (flags f (B + 3 * P)), x1, x2, x3, x4, x5, x6, some (.ref μ.length), none, x9, x10]) (μ := μ ++ [.lst []])
    (fun i ρ ν => ∃ o, ρ = [some (flags f (B + 3 * P)), x1, x2, x3, x4, x5, x6, some (.ref μ.length), o, x9, x10] ∧ ν = μ ++ [.lst ((runs f i).map prD)]) ⟨none, rfl, rfl⟩ (by
      rintro i hi ρ ν ⟨o, rfl, rfl⟩
      have := runs_step (k := k) (μ := μ) h hB hi (x1 := x1) (x2 := x2) (x3 := x3) (x4 := x4) (x5 := x5) (x6 := x6) (x8 := o) (x9 := x9) (x10 := x10)
      rw [Int.zero_add]
      exact .inl ⟨_, _, this, _, rfl, rfl⟩)
  exact ⟨o, e⟩
theorem set_of_flags (h : Rp f B P p s) (hB : B ≤ 200) (hμ : PureM μ) : (gg (k + 1)).call n_law_set_of_flags [flags f (B + 3 * P), nD B, nD P] μ = .ok (theSet f p s) μ := by
  have hP : P ≤ 100 := Nat.le_of_dvd (by decide) h.dv
  have hsB := h.start
  have hpP : p ≤ P := Nat.le_of_dvd h.pos h.dvd
  have hp := h.lp.pos
  have hpu : pureD (theSet f p s) = true := pure_set
  obtain ⟨t, ht⟩ := steps_first h
  have e1 := steps_ok (k := k) (μ := μ) h hB (x3 := none) (x4 := none) (x5 := none) (x6 := none) (x7 := none) (x8 := none) (x9 := none) (x10 := none)
  rw [ht] at e1
  obtain ⟨o6, e2⟩ := start_loop (k := k) (μ := μ) h hB (x1 := some (nD B)) (x2 := some (nD P)) (x3 := some (.lst ((p :: t).map nD))) (x7 := none) (x8 := none) (x9 := none) (x10 := none)
  obtain ⟨o8, e3⟩ := runs_loop (k := k) (μ := μ) h hB (x1 := some (nD B)) (x2 := some (nD P)) (x3 := some (.lst ((p :: t).map nD))) (x4 := some (nD p)) (x5 := some (nD s)) (x6 := o6) (x9 := none) (x10 := none)
  refine call_one c_law_set_of_flags hμ hpu (m := .lst ((runs f s).map prD)) ?_
  refine run_nx (st_set e1) (run_nx (st_set (ev_idx (ev_var rfl) ev_cst il0)) (run_nx (st_set (ev_var rfl)) ?_))
  refine run_nx (for_run' (it_rng1 (n := B) (ev_var rfl) rfl (by omega)) e2) (run_nx (st_new ev_lst0) (run_nx (for_run' (it_rng1 (n := s) (ev_var rfl) rfl (by omega)) e3) ?_))
  refine run_nx (st_set (d := .lst ((rests f p).map nD)) (μ1 := μ ++ [.lst ((runs f s).map prD)]) (ev_bif1 (x := .lst ((((List.range' s p).filter f).map fun n => n % p).map nD)) (μ1 := μ ++ [.lst ((runs f s).map prD)]) ?_ ?_)) (run_rt (st_ret (ev_tup4 ev_cst (ev_tup2 (ev_bif1 (ev_var rfl) (tuple_ref snoc_get)) (ev_var rfl)) (ev_var rfl) (ev_bif1 (ev_var rfl) tuple_lst))))
  · rw [List.map_map]
    refine ev_comp (ds := (List.range' s p).map nD) ((it_rng2 (n := s) (m := p) (ev_var rfl) (ev_bin (ev_var rfl) (ev_var rfl) add_nat) rfl rfl (by omega)).trans (by rw [rngN])) (comp_filter (c := f) (g := fun n => nD (n % p)) (fun n hn => ?_) (by simp; omega))
    have hn' := List.mem_range'_1.mp hn
    exact cbody_if (tv_bl (ev_idx (ev_var rfl) (ev_var rfl) (flag_at (by omega)))) (ev_bin (ev_bif1 (ev_var rfl) int_int) (ev_var rfl) (mod_nat hp))
  · rw [nD_int, sorted_lst, rest_list h, ← nD_int]
end
/-! ### conditions repeat -/
theorem hAt_per {a : At} {B P : Nat} (h1 : pOf a P) (h2 : bndOf a B) {n : Nat} (hn : B ≤ n) : hAt a (n + P) = hAt a n := by
  cases a with
  | rest m lo hi =>
    obtain ⟨q, rfl⟩ : m ∣ P := h1
    show (decide (lo ≤ (n + m * q) % m) && decide ((n + m * q) % m ≤ hi)) = _
    rw [Nat.add_mul_mod_self_left]
    rfl
  | inn lo hi =>
    cases hi with
    | none =>
      have h3 : lo < B := h2
      show decide (lo ≤ n + P) = decide (lo ≤ n)
      rw [decide_eq_true (by omega), decide_eq_true (by omega)]
    | some hi =>
      obtain ⟨h3, h4⟩ : lo < B ∧ hi < B := h2
      show (decide (lo ≤ n + P) && decide (n + P ≤ hi)) = (decide (lo ≤ n) && decide (n ≤ hi))
      rw [decide_eq_false (show ¬ n + P ≤ hi by omega), decide_eq_false (show ¬ n ≤ hi by omega), Bool.and_false, Bool.and_false]
theorem mem_ats {cs : List Cd} {c : Cd} (hc : c ∈ cs) {as : List (Bool × At)} (h : as ∈ c) {a : Bool × At} (ha : a ∈ as) : a.2 ∈ ats cs := by
  unfold ats
  rw [List.mem_flatMap]
  refine ⟨c, hc, ?_⟩
  rw [List.mem_flatMap]
  exact ⟨as, h, List.mem_map_of_mem ha⟩
theorem all_congr {α : Type} {p q : α → Bool} : ∀ {l : List α}, (∀ x ∈ l, p x = q x) → l.all p = l.all q
  | [], _ => rfl
  | x :: l, h => by rw [List.all_cons, List.all_cons, h x (List.mem_cons_self ..), all_congr fun y hy => h y (List.mem_cons_of_mem _ hy)]
theorem any_congr {α : Type} {p q : α → Bool} : ∀ {l : List α}, (∀ x ∈ l, p x = q x) → l.any p = l.any q
  | [], _ => rfl
  | x :: l, h => by rw [List.any_cons, List.any_cons, h x (List.mem_cons_self ..), any_congr fun y hy => h y (List.mem_cons_of_mem _ hy)]
theorem hCd_per {cs : List Cd} {B P : Nat} (h1 : ∀ a ∈ ats cs, pOf a P) (h2 : ∀ a ∈ ats cs, bndOf a B) {c : Cd} (hc : c ∈ cs) : Per (hCd c) B P := fun n hn => by
  unfold hCd
  refine any_congr fun as has => all_congr fun a ha => ?_
  have := mem_ats hc has ha
  unfold hAm
  rw [hAt_per (h1 _ this) (h2 _ this) hn]
theorem ok_ats {cs : List Cd} (h : ∀ c ∈ cs, okCd c) : ∀ a ∈ ats cs, okAt a := fun a ha => by
  unfold ats at ha
  obtain ⟨c, hc, h1⟩ := List.mem_flatMap.mp ha
  obtain ⟨as, has, h2⟩ := List.mem_flatMap.mp h1
  obtain ⟨b, hb, rfl⟩ := List.mem_map.mp h2
  exact h c hc as has b hb
theorem len_ats : ∀ {cs : List Cd}, (∀ c ∈ cs, smCd c) → (ats cs).length ≤ 100 * cs.length
  | [], _ => Nat.zero_le _
  | c :: cs, h => by
    have ih := len_ats (cs := cs) fun d hd => h d (List.mem_cons_of_mem _ hd)
    have sc := h c (List.mem_cons_self ..)
    have key : ∀ c : Cd, (∀ as ∈ c, as.length ≤ 10) → (c.flatMap fun as => as.map (·.2)).length ≤ 10 * c.length := by
      intro c
      induction c with
      | nil => intro _; exact Nat.zero_le _
      | cons as c ih =>
        intro h
        have h3 := ih fun q hq => h q (List.mem_cons_of_mem _ hq)
        have h4 := h as (List.mem_cons_self ..)
        rw [List.flatMap_cons, List.length_append, List.length_map, List.length_cons]
        omega
    have k1 := key c sc.2
    have k2 := sc.1
    have e : ats (c :: cs) = (c.flatMap fun as => as.map (·.2)) ++ ats cs := by unfold ats; rw [List.flatMap_cons]
    rw [e, List.length_append, List.length_cons]
    omega
end PyI.K01
/-! Q18: the digits, the draws. -/
namespace PyI.K01
open PySem L2 PyProof.Rows
def thenB : PyI.S → B
  | .ifs _ b _ => b
  | _ => .nil
def elseB : PyI.S → B
  | .ifs _ _ b => b
  | _ => .nil
abbrev dBody : B := forB (nthS b_law_digits 1)
abbrev dBig : B := forB (nthS (thenB (nthS dBody 3)) 0)
abbrev dSm : B := forB (nthS (elseB (nthS dBody 3)) 1)
section
variable {Γ : G} {ρ : Rho} {μ μ1 : Mu} {a b : E}
theorem mul_int {i j : Int} (h : lim64 i ∨ lim64 j) : binD .mul (.int i) (.int j) μ = .ok (.int (i * j)) μ := by
  show needs _ _ = _
  rw [needs_pos (.inl h)]
theorem mod_int {i j : Int} (h : 0 < j) : binD .mod (.int i) (.int j) μ = .ok (.int (i % j)) μ := by
  show needs _ _ = _
  rw [needs_pos h]
theorem fdiv_int {i j : Int} (h : 0 < j) (h2 : j < 1073741824) : binD .fdiv (.int i) (.int j) μ = .ok (.int (i / j)) μ := by
  show needs _ _ = _
  rw [needs_pos ⟨h, .inl h2⟩]
theorem gt_int {i j : Int} : cmpD .gt (.int i) (.int j) μ = .ok (decide (j < i)) μ := rfl
theorem lt_int {i j : Int} : cmpD .lt (.int i) (.int j) μ = .ok (decide (i < j)) μ := rfl
theorem ge_int {i j : Int} : cmpD .ge (.int i) (.int j) μ = .ok (decide (j ≤ i)) μ := rfl
theorem len_lst {l : List D} : bifD .len [.lst l] μ = .ok (nD l.length) μ := rfl
theorem len_kl {l : List D} : bifD .len [.kl l] μ = .ok (nD l.length) μ := rfl
theorem len_ref {n : Nat} {l : List D} (h : μ[n]? = some (.lst l)) : bifD .len [.ref n] μ = .ok (nD l.length) μ := by
  show (match seqD μ (.ref n) with
    | some l => Res.ok (D.int (l.length : Int)) μ
    | none => .stuck) = _
  have : seqD μ (.ref n) = some l := by unfold seqD; simp only [h]
  rw [this]
  rfl
theorem ix_kl {l : List D} {n : Nat} {d : D} {μ : Mu} (h : l[n]? = some d) : idxD (.kl l) (.int (n : Int)) μ = .ok d μ := by
  show (match seqD μ (.kl l) with
    | some l => match atI l (n : Int) with
      | some d => Res.ok d μ
      | none => .stuck
    | none => .stuck) = _
  simp only [seqD, atI_nat, h]
theorem ix_ref {l : List D} {n m : Nat} {d : D} {μ : Mu} (hm : μ[m]? = some (.lst l)) (h : l[n]? = some d) : idxD (.ref m) (.int (n : Int)) μ = .ok d μ := by
  have e : seqD μ (.ref m) = some l := by unfold seqD; simp only [hm]
  show (match seqD μ (.ref m) with
    | some l => match atI l (n : Int) with
      | some d => Res.ok d μ
      | none => .stuck
    | none => .stuck) = _
  simp only [e, atI_nat, h]
end
theorem call_lst {k f : Nat} {b : B} {ρ : Rho} {ds l : List D} {μ : Mu} (hc : callD prg.tab prg.con prg.dic prg.wf (k + 1) f ds μ = finO μ.length (runB (gg k) b ρ μ)) (hμ : PureM μ) (hl : pureDs l = true) (h : runB (gg k) b ρ μ = .rt (.ref μ.length) (μ ++ [.lst l])) : (gg (k + 1)).call f ds μ = .ok (.lst l) μ := by
  show callD prg.tab prg.con prg.dic prg.wf (k + 1) f ds μ = _
  rw [hc, h, finO_rt, fin_ret hμ hl]
section
variable {k : Nat} {μ : Mu}
theorem cell_ok {i : Nat} {ns : List Int} : ∃ v, (gg (k + 1)).call n_law_cell [.kl (ns.map D.int), nD i] μ = .ok (.int v) μ := by
  have test : evalT (gg k) (.val (.cmp .lt (.var 1) (.bif .len (.cons (.var 0) .nil)))) (startR f_law_cell.N.length [.kl (ns.map D.int), nD i]) μ = .ok (decide ((i : Int) < ((ns.map D.int).length : Int))) μ := tv_bl (ev_cmp (ev_var rfl) (ev_bif1 (ev_var rfl) len_kl) lt_int)
  by_cases h : i < ns.length
  · refine ⟨ns[i], call_of c_law_cell rfl (run_rt (ifs_true (test.trans ?_) (run_rt (st_ret (ev_idx (ev_var rfl) (ev_var rfl) (ix_kl (by rw [List.getElem?_map, List.getElem?_eq_getElem h]; rfl)))))))⟩
    rw [decide_eq_true (by rw [List.length_map]; omega)]
  · refine ⟨0, call_of c_law_cell rfl (run_nx (ifs_false (test.trans ?_) run_nil) (run_rt (st_ret ev_cst)))⟩
    rw [decide_eq_false (by rw [List.length_map]; omega)]
theorem big_loop {n m : Nat} {x0 x1 x2 x4 x6 x7 : Option D} {c : Int} {ds : List Int} (hn : n = μ.length) (hm : m ≤ 1000000) (hl : ds.length ≤ m) :
    ∃ ρ' μ', forLoop (fbody (gg k) (.nm 6) dBig) (chkOf none) (rngD 0 60) [x0, x1, x2, some (.ref n), x4, some (.int c), x6, x7] (μ ++ [.lst (ds.map D.int)]) = .nx ρ' μ' ∧
      ∃ (ds' : List Int) (c' : Int) (o6 : Option D), ds'.length ≤ m + 60 ∧ μ' = μ ++ [.lst (ds'.map D.int)] ∧ ρ' = [x0, x1, x2, some (.ref n), x4, some (.int c'), o6, x7] := by
  refine for_range (fun j ρ ν => ∃ (ds' : List Int) (c' : Int) (o6 : Option D), ds'.length ≤ m + j ∧ ν = μ ++ [.lst (ds'.map D.int)] ∧ ρ = [x0, x1, x2, some (.ref n), x4, some (.int c'), o6, x7]) ⟨ds, c, x6, hl, rfl, rfl⟩ ?_
  rintro i hi ρ ν ⟨ds', c', o6, h1, rfl, rfl⟩
  subst hn
  generalize (0 : Int) + (i : Int) = j
  rw [fbody_nm]
  have g3 : (ds'.map D.int).length < 16777216 := by rw [List.length_map]; omega
  have test : evalT (gg k) (.val (.cmp .gt (.var 5) (.cst (.int 0)))) ([x0, x1, x2, some (.ref μ.length), x4, some (.int c'), o6, x7].set 6 (some (.int j))) (μ ++ [.lst (ds'.map D.int)]) = .ok (decide (0 < c')) _ := tv_bl (ev_cmp (ev_var rfl) ev_cst gt_int)
  by_cases hc : 0 < c'
  · rw [decide_eq_true hc] at test
    refine .inl ⟨_, _, run_nx (ifs_true test (run_nx (st_append (ev_var rfl) (ev_bin (ev_bif1 (ev_var rfl) int_int) ev_cst (mod_int (by decide))) snoc_get g3 snoc_set snoc_get) (run_nx (st_set (ev_bin (ev_var rfl) ev_cst (fdiv_int (by decide) (by decide)))) run_nil))) run_nil, ds' ++ [c' % 1000], c' / 1000, _, by simp; omega, by rw [List.map_append]; rfl, rfl⟩
  · rw [decide_eq_false hc] at test
    exact .inl ⟨_, _, run_nx (ifs_false test run_nil) run_nil, ds', c', _, by omega, rfl, rfl⟩
theorem small_loop {n m : Nat} {x0 x1 x2 x4 x5 x6 : Option D} {c : Int} {ds : List Int} (hn : n = μ.length) (hm : m ≤ 1000000) (hl : ds.length ≤ m) :
    ∃ ρ' μ', forLoop (fbody (gg k) (.nm 6) dSm) (chkOf none) (rngD 0 12) [x0, x1, x2, some (.ref n), x4, x5, x6, some (.int c)] (μ ++ [.lst (ds.map D.int)]) = .nx ρ' μ' ∧
      ∃ (ds' : List Int) (c' : Int) (o6 : Option D), ds'.length ≤ m + 12 ∧ μ' = μ ++ [.lst (ds'.map D.int)] ∧ ρ' = [x0, x1, x2, some (.ref n), x4, x5, o6, some (.int c')] := by
  refine for_range (fun j ρ ν => ∃ (ds' : List Int) (c' : Int) (o6 : Option D), ds'.length ≤ m + j ∧ ν = μ ++ [.lst (ds'.map D.int)] ∧ ρ = [x0, x1, x2, some (.ref n), x4, x5, o6, some (.int c')]) ⟨ds, c, x6, hl, rfl, rfl⟩ ?_
  rintro i hi ρ ν ⟨ds', c', o6, h1, rfl, rfl⟩
  subst hn
  generalize (0 : Int) + (i : Int) = j
  rw [fbody_nm]
  have g3 : (ds'.map D.int).length < 16777216 := by rw [List.length_map]; omega
  refine .inl ⟨_, _, run_nx (st_set (ev_bin (ev_bif1 (ev_bin (ev_bin (ev_bin (ev_var rfl) ev_cst (mul_int (.inr (by decide)))) (ev_bin ev_cst (ev_var rfl) (mul_int (.inl (by decide)))) rfl) ev_cst rfl) int_int) ev_cst (mod_int (by decide)))) (run_nx (st_append (ev_var rfl) (ev_bin (ev_bif1 (ev_bin (ev_var rfl) ev_cst (fdiv_int (by decide) (by decide))) int_int) ev_cst (mod_int (by decide))) snoc_get g3 snoc_set snoc_get) run_nil), ds' ++ [((c' * 16807 + 7 * j + 1) % 2147483647) / 997 % 1000], _, _, by simp; omega, by rw [List.map_append]; rfl, rfl⟩
set_option profiler true in
set_option profiler.threshold 1000 in
theorem digits_ok {ns : List Int} (hμ : PureM μ) : ∃ ds : List Int, (gg (k + 2)).call n_law_digits [.kl (ns.map D.int), .int 0, .int 63] μ = .ok (.lst (ds.map D.int)) μ := by
  have loop := for_range (f := fbody (gg (k + 1)) (.nm 4) dBody) (lo := 0) (n := 63) (ρ := [some (.kl (ns.map D.int)), some (.int 0), some (.int 63), some (.ref μ.length), none, none, none, none]) (μ := μ ++ [.lst []])
    (fun i ρ ν => ∃ (ds : List Int) (o4 o5 o6 o7 : Option D), ds.length ≤ 60 * i ∧ ν = μ ++ [.lst (ds.map D.int)] ∧ ρ = [some (.kl (ns.map D.int)), some (.int 0), some (.int 63), some (.ref μ.length), o4, o5, o6, o7])
    ⟨[], none, none, none, none, by simp, rfl, rfl⟩ (by
      rintro i hi ρ ν ⟨ds, o4, o5, o6, o7, h1, rfl, rfl⟩
      rw [Int.zero_add, fbody_nm]
      obtain ⟨v, hv⟩ := cell_ok (k := k) (i := i) (ns := ns) (μ := μ ++ [.lst (ds.map D.int)])
      generalize hX : D.kl (ns.map D.int) = X at hv ⊢
      obtain ⟨c, h3⟩ : ∃ c, runS (gg (k + 1)) (nthS dBody 1) [some X, some (.int 0), some (.int 63), some (.ref μ.length), some (nD i), some (.int v), o6, o7] (μ ++ [.lst (ds.map D.int)]) = .nx [some X, some (.int 0), some (.int 63), some (.ref μ.length), some (nD i), some (.int c), o6, o7] (μ ++ [.lst (ds.map D.int)]) := by
        have test : evalT (gg (k + 1)) (.val (.cmp .lt (.var 5) (.cst (.int 0)))) [some X, some (.int 0), some (.int 63), some (.ref μ.length), some (nD i), some (.int v), o6, o7] (μ ++ [.lst (ds.map D.int)]) = .ok (decide (v < 0)) _ := tv_bl (ev_cmp (ev_var rfl) ev_cst lt_int)
        by_cases hc : v < 0
        · rw [decide_eq_true hc] at test
          exact ⟨1 - 2 * v, ifs_true test (run_nx (st_set (ev_bin ev_cst (ev_bin ev_cst (ev_var rfl) (mul_int (.inl (by decide)))) rfl)) run_nil)⟩
        · rw [decide_eq_false hc] at test
          exact ⟨v, ifs_false test run_nil⟩
      have test : evalT (gg (k + 1)) (.val (.cmp .gt (.bif .len (.cons (.var 3) .nil)) (.cst (.int 1500)))) [some X, some (.int 0), some (.int 63), some (.ref μ.length), some (nD i), some (.int c), o6, o7] (μ ++ [.lst (ds.map D.int)]) = .ok (decide ((1500 : Int) < ((ds.map D.int).length : Int))) (μ ++ [.lst (ds.map D.int)]) := tv_bl (ev_cmp (ev_bif1 (ev_var rfl) (len_ref snoc_get)) ev_cst gt_int)
      by_cases hb : (1500 : Int) < ((ds.map D.int).length : Int)
      · rw [decide_eq_true hb] at test
        exact .inr ⟨_, _, run_nx (st_set (ev_call2 (ev_var rfl) (ev_var rfl) hv)) (run_nx h3 (run_br (ifs_true test (run_br (ρ' := [some X, some (.int 0), some (.int 63), some (.ref μ.length), some (nD i), some (.int c), o6, o7]) (μ' := μ ++ [.lst (ds.map D.int)]) (by rw [runS]))))), ds, _, _, _, _, by omega, rfl, rfl⟩
      · rw [decide_eq_false hb] at test
        have gp : (0 : Int) ≤ 18 ∧ (18 : Int) ≤ 1000000 ∧ (10 : Int).natAbs < 2 ^ 64 := by decide
        have ep : ∀ {ν : Mu}, binD .pow (.int 10) (.int 18) ν = .ok (.int ((10 : Int) ^ (18 : Int).toNat)) ν := fun {ν} => by
          show needs _ _ = _
          rw [needs_pos gp]
        have t4 : evalT (gg (k + 1)) (.val (.cmp .ge (.var 5) (.bin .pow (.cst (.int 10)) (.cst (.int 18))))) [some X, some (.int 0), some (.int 63), some (.ref μ.length), some (nD i), some (.int c), o6, o7] (μ ++ [.lst (ds.map D.int)]) = .ok (decide ((10 : Int) ^ (18 : Int).toNat ≤ c)) (μ ++ [.lst (ds.map D.int)]) := tv_bl (ev_cmp (ev_var rfl) (ev_bin ev_cst ev_cst ep) ge_int)
        have h4 : ∃ ρ' μ', runS (gg (k + 1)) (nthS dBody 3) [some X, some (.int 0), some (.int 63), some (.ref μ.length), some (nD i), some (.int c), o6, o7] (μ ++ [.lst (ds.map D.int)]) = .nx ρ' μ' ∧ ∃ (ds : List Int) (o4 o5 o6 o7 : Option D), ds.length ≤ 60 * (i + 1) ∧ μ' = μ ++ [.lst (ds.map D.int)] ∧ ρ' = [some X, some (.int 0), some (.int 63), some (.ref μ.length), o4, o5, o6, o7] := by
          by_cases hg : (10 : Int) ^ (18 : Int).toNat ≤ c
          · rw [decide_eq_true hg] at t4
            obtain ⟨ρ', μ', e, ds', c', o6', q1, q2, q3⟩ := big_loop (k := k + 1) (n := μ.length) (m := 60 * i) (x0 := some X) (x1 := some (.int 0)) (x2 := some (.int 63)) (x4 := some (nD i)) (x6 := o6) (x7 := o7) (c := c) (ds := ds) (μ := μ) rfl (by omega) h1
            exact ⟨ρ', μ', ifs_true t4 (run_nx (for_run' (it_rng1 (i := 60) (n := 60) ev_cst rfl (by omega)) e) run_nil), ds', _, _, _, _, by omega, q2, q3⟩
          · rw [decide_eq_false hg] at t4
            obtain ⟨ρ', μ', e, ds', c', o6', q1, q2, q3⟩ := small_loop (k := k + 1) (n := μ.length) (m := 60 * i) (x0 := some X) (x1 := some (.int 0)) (x2 := some (.int 63)) (x4 := some (nD i)) (x5 := some (.int c)) (x6 := o6) (c := (c * 48271 + (i : Int) * 69621 + 11) % 2147483647) (ds := ds) (μ := μ) rfl (by omega) h1
            exact ⟨ρ', μ', ifs_false t4 (run_nx (st_set (ev_bin (ev_bif1 (ev_bin (ev_bin (ev_bin (ev_var rfl) ev_cst (mul_int (.inr (by decide)))) (ev_bin (ev_var rfl) ev_cst (mul_int (.inr (by decide)))) rfl) ev_cst rfl) int_int) ev_cst (mod_int (by decide)))) (run_nx (for_run' (it_rng1 (i := 12) (n := 12) ev_cst rfl (by omega)) e) run_nil)), ds', _, _, _, _, by omega, q2, q3⟩
        obtain ⟨ρ', μ', e4, q⟩ := h4
        exact .inl ⟨ρ', μ', run_nx (st_set (ev_call2 (ev_var rfl) (ev_var rfl) hv)) (run_nx h3 (run_nx (ifs_false test run_nil) (run_nx e4 run_nil))), q⟩)
  obtain ⟨ρ', μ', e, ds, o4, o5, o6, o7, h1, rfl, rfl⟩ := loop
  refine ⟨ds, ?_⟩
  have full : runB (gg (k + 1)) b_law_digits (startR f_law_digits.N.length [.kl (ns.map D.int), .int 0, .int 63]) μ = .rt (.ref μ.length) (μ ++ [.lst (ds.map D.int)]) := by
    have hb : b_law_digits = .cons (.new 3 (.lst .nil)) (.cons (.for_ (.nm 4) (.rng2 (.var 1) (.var 2)) dBody) (.cons (.ret (.var 3)) .nil)) := by kernel_rfl
    have hs : startR f_law_digits.N.length [.kl (ns.map D.int), .int 0, .int 63] = [some (.kl (ns.map D.int)), some (.int 0), some (.int 63), none, none, none, none, none] := rfl
    rw [hb, hs]
    refine run_nx (ρ' := [some (.kl (ns.map D.int)), some (.int 0), some (.int 63), some (.ref μ.length), none, none, none, none]) (μ' := μ ++ [.lst []]) (st_new ev_lst0) ?_
    have hi : evalIt (gg (k + 1)) (.rng2 (.var 1) (.var 2)) [some (.kl (ns.map D.int)), some (.int 0), some (.int 63), some (.ref μ.length), none, none, none, none] (μ ++ [.lst []]) = .ok (rngD 0 63, none) (μ ++ [.lst []]) := it_rng2 (μ1 := μ ++ [.lst []]) (i := 0) (j := 63) (n := 0) (m := 63) (ev_var rfl) (ev_var rfl) rfl rfl (by omega)
    exact run_nx (for_run' hi e) (run_rt (st_ret (ev_var rfl)))
  exact call_lst (c_law_digits (k := k + 1)) hμ (pureDs_map (fun _ => rfl) ds) full
end
end PyI.K01
/-! Q19: draws; a drawn condition. -/
namespace PyI.K01
open PySem L2 PyProof.Rows
/-- the heap: the box alone -/
def Bx (ν : Mu) : Prop := ∃ (ds : List Int) (at_ : Nat), ν = [.lst [.lst (ds.map D.int), nD at_]]
theorem Bx.pure {ν : Mu} (h : Bx ν) : PureM ν := by
  obtain ⟨ds, at_, rfl⟩ := h
  intro m hm
  rw [List.mem_singleton.mp hm]
  refine ⟨_, rfl, ?_⟩
  simp only [pureDs, pureD, pureDs_map (f := D.int) (fun _ => rfl) ds, nD, Bool.and_true]
theorem Bx.len {ν : Mu} (h : Bx ν) : ν.length = 1 := by
  obtain ⟨ds, at_, rfl⟩ := h
  rfl
section
variable {k : Nat} {ν : Mu}
theorem draw_ok (h : Bx ν) {m : Nat} (hm : 0 < m) : ∃ r ν', r < m ∧ Bx ν' ∧ (gg (k + 1)).call n_law_draw [.ref 0, nD m] ν = .ok (nD r) ν' := by
  obtain ⟨ds, at_, rfl⟩ := h
  have hseq : ∀ (x : Nat), ([.lst [.lst (ds.map D.int), nD x]] : Mu)[0]? = some (.lst [.lst (ds.map D.int), nD x]) := fun _ => rfl
  have st2 : ∀ {o : Out}, runB (gg k) (match b_law_draw with | .cons _ (.cons _ b) => b | b => b) [some (.ref 0), some (nD m), some (nD at_)] [.lst [.lst (ds.map D.int), nD (at_ + 1)]] = o → runB (gg k) b_law_draw (startR f_law_draw.N.length [.ref 0, nD m]) [.lst [.lst (ds.map D.int), nD at_]] = o := fun {o} e => by
    refine run_nx (st_set (ev_idx (ev_var rfl) ev_cst (ix_ref (n := 1) (hseq _) rfl))) (run_nx (ρ' := [some (.ref 0), some (nD m), some (nD at_)]) (μ' := [.lst [.lst (ds.map D.int), nD (at_ + 1)]]) ?_ e)
    have e1 : evalE (gg k) (.bin .add (.var 2) (.cst (.int 1))) [some (.ref 0), some (nD m), some (nD at_)] [.lst [.lst (ds.map D.int), nD at_]] = .ok (nD (at_ + 1)) [.lst [.lst (ds.map D.int), nD at_]] := ev_bin (ev_var rfl) ev_cst (add_nat (n := 1))
    show runS (gg k) (.setIx (.var 0) (.cst (.int 1)) (.bin .add (.var 2) (.cst (.int 1)))) [some (.ref 0), some (nD m), some (nD at_)] [.lst [.lst (ds.map D.int), nD at_]] = _
    rw [runS, e1, then_ok, ev_var (d := .ref 0) rfl, then_ok, ev_cst, then_ok]
    rfl
  have e0 : evalE (gg k) (.idx (.var 0) (.cst (.int 0))) [some (.ref 0), some (nD m), some (nD at_)] [.lst [.lst (ds.map D.int), nD (at_ + 1)]] = .ok (.lst (ds.map D.int)) [.lst [.lst (ds.map D.int), nD (at_ + 1)]] := ev_idx (ev_var rfl) ev_cst (ix_ref (n := 0) (hseq _) rfl)
  have test : evalT (gg k) (.val (.cmp .lt (.var 2) (.bif .len (.cons (.idx (.var 0) (.cst (.int 0))) .nil)))) [some (.ref 0), some (nD m), some (nD at_)] [.lst [.lst (ds.map D.int), nD (at_ + 1)]] = .ok (decide ((at_ : Int) < ((ds.map D.int).length : Int))) [.lst [.lst (ds.map D.int), nD (at_ + 1)]] := tv_bl (ev_cmp (ev_var rfl) (ev_bif1 e0 len_lst) lt_int)
  have modn : ∀ (v : Int), ∃ r : Nat, r < m ∧ v % (m : Int) = (r : Int) := fun v => by
    have h1 := Int.emod_nonneg v (show (m : Int) ≠ 0 by omega)
    have h2 := Int.emod_lt_of_pos v (show (0 : Int) < (m : Int) by omega)
    exact ⟨(v % (m : Int)).toNat, by omega, by omega⟩
  by_cases hc : at_ < ds.length
  · rw [decide_eq_true (by rw [List.length_map]; omega)] at test
    obtain ⟨r, hr, er⟩ := modn ds[at_]
    refine ⟨r, _, hr, ⟨ds, at_ + 1, rfl⟩, call_of c_law_draw rfl (st2 (run_rt (ifs_true test (run_rt (st_ret (ev_bin (ev_bif1 (ev_idx e0 (ev_var rfl) (ix_lst (d := .int ds[at_]) (by rw [List.getElem?_map, List.getElem?_eq_getElem hc]; rfl))) int_int) (ev_var rfl) ((mod_int (by omega)).trans ?_)))))))⟩
    rw [er]; rfl
  · rw [decide_eq_false (by rw [List.length_map]; omega)] at test
    obtain ⟨r, hr, er⟩ := modn ((at_ : Int) * 7)
    refine ⟨r, _, hr, ⟨ds, at_ + 1, rfl⟩, call_of c_law_draw rfl (st2 (run_nx (ifs_false test run_nil) (run_rt (st_ret (ev_bin (ev_bif1 (ev_bin (ev_var rfl) ev_cst (mul_int (.inr (by decide)))) int_int) (ev_var rfl) ((mod_int (by omega)).trans ?_))))))⟩
    rw [er]; rfl
theorem pick_ok (h : Bx ν) {l : List D} (hl : l ≠ []) : ∃ x ν', x ∈ l ∧ Bx ν' ∧ (gg (k + 2)).call n_law_pick [.ref 0, .lst l] ν = .ok x ν' := by
  obtain ⟨r, ν', hr, hb, e⟩ := draw_ok (k := k) h (m := 900) (by decide)
  have h0 : 0 < l.length := List.length_pos_iff.mpr hl
  have hm := Nat.mod_lt r h0
  refine ⟨l[r % l.length], ν', List.getElem_mem hm, hb, call_of c_law_pick (by rw [hb.len, h.len]) (run_rt (st_ret (ev_idx (ev_var rfl) (ev_bin (ev_bif1 (ev_call2 (ev_var rfl) ev_cst e) int_int) (ev_bif1 (ev_var rfl) len_lst) (mod_nat h0)) (ix_lst (List.getElem?_eq_getElem hm)))))⟩
theorem ev_lst3 {Γ : G} {ρ : Rho} {μ μ1 μ2 μ3 : Mu} {a b c : E} {x y z : D} (h : evalE Γ a ρ μ = .ok x μ1) (h2 : evalE Γ b ρ μ1 = .ok y μ2) (h3 : evalE Γ c ρ μ2 = .ok z μ3) : evalE Γ (.lst (.cons a (.cons b (.cons c .nil)))) ρ μ = .ok (.lst [x, y, z]) μ3 := by
  rw [evalE, evalEs, h, bind_ok, evalEs, h2, bind_ok, evalEs, h3, bind_ok, evalEs, bind_ok, bind_ok, bind_ok, bind_ok, needs_pos (by simp)]
theorem ev_tup3 {Γ : G} {ρ : Rho} {μ μ1 μ2 μ3 : Mu} {a b c : E} {x y z : D} (h : evalE Γ a ρ μ = .ok x μ1) (h2 : evalE Γ b ρ μ1 = .ok y μ2) (h3 : evalE Γ c ρ μ2 = .ok z μ3) : evalE Γ (.tup (.cons a (.cons b (.cons c .nil)))) ρ μ = .ok (.tup [x, y, z]) μ3 := by
  rw [evalE, evalEs, h, bind_ok, evalEs, h2, bind_ok, evalEs, h3, bind_ok, evalEs, bind_ok, bind_ok, bind_ok, bind_ok, needs_pos (by simp)]
theorem len_box (h : Bx ν) : bifD .len [.ref 0] ν = .ok (nD 2) ν := by
  obtain ⟨ds, at_, rfl⟩ := h
  exact len_ref (n := 0) (l := [.lst (ds.map D.int), nD at_]) rfl
theorem min_nat {m n : Nat} : bifD .min [nD m, nD n] ν = .ok (nD (min m n)) ν := by
  show Res.ok (D.int (if (n : Int) < (m : Int) then (n : Int) else (m : Int))) ν = _
  unfold nD
  congr 2
  split <;> omega
theorem atom_drawn (h : Bx ν) : ∃ a ν', okAt a ∧ Bx ν' ∧ (gg (k + 3)).call n_law_atom_plain [.ref 0, .bl false] ν = .ok (atD a) ν' := by
  obtain ⟨r1, ν1, hr1, h1, e1⟩ := draw_ok (k := k + 1) h (m := 2) (by decide)
  have t0 : ∀ {ρ : Rho} {n : Nat} {ν : Mu}, ρ[0]? = some (some (.ref 0)) → Bx ν → 2 ≤ n → evalT (gg (k + 2)) (.val (.cmp .gt (.bif .len (.cons (.var 0) .nil)) (.cst (nD n)))) ρ ν = .ok false ν := fun {ρ n ν} hρ hb hn => by
    have := tv_bl (ev_cmp (Γ := gg (k + 2)) (ρ := ρ) (μ := ν) (ev_bif1 (a := .var 0) (ev_var hρ) (len_box hb)) (ev_cst (d := nD n)) gt_int)
    rw [decide_eq_false (by omega)] at this
    exact this
  have t1 : evalT (gg (k + 2)) (.val (.cmp .eq (.call 20 (.cons (.var 0) (.cons (.cst (.int 2)) .nil))) (.cst (.int 0)))) (startR f_law_atom_plain.N.length [.ref 0, .bl false]) ν = .ok (decide (r1 = 0)) ν1 := tv_bl (ev_cmp (ev_call2 (ev_var rfl) ev_cst e1) ev_cst (eq_nat (n := 0)))
  by_cases z : r1 = 0
  · rw [decide_eq_true z] at t1
    obtain ⟨x, ν2, hx, h2, e2⟩ := pick_ok (k := k) h1 (l := [nD 2, nD 4, nD 5, nD 10, nD 2, nD 10, nD 20, nD 4, nD 10, nD 25, nD 100]) (by simp)
    obtain ⟨m, hm, rfl⟩ : ∃ m, m ∈ [2, 4, 5, 10, 20, 25, 100] ∧ x = nD m := by
      simp only [List.mem_cons, List.not_mem_nil, or_false] at hx
      rcases hx with rfl | rfl | rfl | rfl | rfl | rfl | rfl | rfl | rfl | rfl | rfl <;> exact ⟨_, by decide, rfl⟩
    have m0 := (mod_ok hm).1
    obtain ⟨lo, ν3, hlo, h3, e3⟩ := draw_ok (k := k + 1) h2 (m := m) m0
    obtain ⟨w, ν4, hw, h4, e4⟩ := draw_ok (k := k + 1) h3 (m := m - lo) (by omega)
    have el : evalE (gg (k + 2)) (.lst (.cons (.cst (.int 2)) (.cons (.cst (.int 4)) (.cons (.cst (.int 5)) (.cons (.cst (.int 10)) (.cons (.cst (.int 2)) (.cons (.cst (.int 10)) (.cons (.cst (.int 20)) (.cons (.cst (.int 4)) (.cons (.cst (.int 10)) (.cons (.cst (.int 25)) (.cons (.cst (.int 100)) .nil)))))))))))) (startR f_law_atom_plain.N.length [.ref 0, .bl false]) ν1 = .ok (.lst [nD 2, nD 4, nD 5, nD 10, nD 2, nD 10, nD 20, nD 4, nD 10, nD 25, nD 100]) ν1 := by
      rw [evalE]
      simp only [evalEs, evalE, bind_ok]
      rw [needs_pos (by simp)]
      rfl
    refine ⟨.rest m lo (lo + w), ν4, ⟨hm, by omega, by omega⟩, h4, call_of c_law_atom_plain (by rw [h4.len, h.len]) (run_nx (ifs_false (t0 (n := 3) rfl h (by decide)) run_nil) (run_rt (ifs_true t1 (run_nx (st_set (ev_call2 (ev_var rfl) el e2)) (run_nx (ifs_false (t0 (n := 2) rfl h2 (by decide)) run_nil) (run_nx (st_set (ev_call2 (ev_var rfl) (ev_var rfl) e3)) (run_rt (st_ret (ev_tup4 ev_cst (ev_var rfl) (ev_var rfl) (ev_bin (ev_var rfl) (ev_call2 (ev_var rfl) (ev_bin (ev_var rfl) (ev_var rfl) (sub_nat (by omega))) e4) add_nat))))))))))⟩
  · rw [decide_eq_false z] at t1
    obtain ⟨r2, ν2, hr2, h2, e2⟩ := draw_ok (k := k + 1) h1 (m := 30) (by decide)
    obtain ⟨x, ν3, hx, h3, e3⟩ := pick_ok (k := k) h2 (l := [nD 0, nD 1, nD 2, nD 5, nD r2]) (by simp)
    obtain ⟨lo, hlo, rfl⟩ : ∃ lo, lo ≤ 30 ∧ x = nD lo := by
      simp only [List.mem_cons, List.not_mem_nil, or_false] at hx
      rcases hx with rfl | rfl | rfl | rfl | rfl
      · exact ⟨0, by decide, rfl⟩
      · exact ⟨1, by decide, rfl⟩
      · exact ⟨2, by decide, rfl⟩
      · exact ⟨5, by decide, rfl⟩
      · exact ⟨r2, by omega, rfl⟩
    obtain ⟨w, ν4, hw, h4, e4⟩ := draw_ok (k := k + 1) h3 (m := 9) (by decide)
    obtain ⟨y, ν5, hy, h5, e5⟩ := pick_ok (k := k) h4 (l := [nD lo, nD (min 100 (lo + w)), .non]) (by simp)
    obtain ⟨hi, hhi, rfl⟩ : ∃ hi, okAt (.inn lo hi) ∧ y = oD hi := by
      simp only [List.mem_cons, List.not_mem_nil, or_false] at hy
      rcases hy with rfl | rfl | rfl
      · exact ⟨some lo, ⟨Nat.le_refl _, by omega⟩, rfl⟩
      · exact ⟨some (min 100 (lo + w)), ⟨by omega, by omega⟩, rfl⟩
      · exact ⟨none, show lo ≤ 100 by omega, rfl⟩
    have el : evalE (gg (k + 2)) (.lst (.cons (.cst (.int 0)) (.cons (.cst (.int 1)) (.cons (.cst (.int 2)) (.cons (.cst (.int 5)) (.cons (.call 20 (.cons (.var 0) (.cons (.cst (.int 30)) .nil))) .nil)))))) (startR f_law_atom_plain.N.length [.ref 0, .bl false]) ν1 = .ok (.lst [nD 0, nD 1, nD 2, nD 5, nD r2]) ν2 := by
      have ec := ev_call2 (Γ := gg (k + 2)) (ρ := startR f_law_atom_plain.N.length [.ref 0, .bl false]) (μ := ν1) (a := .var 0) (b := .cst (.int 30)) (f := 20) (ev_var rfl) ev_cst e2
      have c : ∀ {n : Int} {μ : Mu}, evalE (gg (k + 2)) (.cst (.int n)) (startR f_law_atom_plain.N.length [.ref 0, .bl false]) μ = .ok (.int n) μ := ev_cst
      rw [evalE, evalEs, c, bind_ok, evalEs, c, bind_ok, evalEs, c, bind_ok, evalEs, c, bind_ok, evalEs, ec, bind_ok, evalEs, bind_ok, bind_ok, bind_ok, bind_ok, bind_ok, bind_ok, needs_pos (by simp)]
      rfl
    refine ⟨.inn lo hi, ν5, hhi, h5, call_of c_law_atom_plain (by rw [h5.len, h.len]) (run_nx (ifs_false (t0 (n := 3) rfl h (by decide)) run_nil) (run_nx (ifs_false t1 run_nil) (run_nx (ifs_false (t0 (n := 2) rfl h1 (by decide)) run_nil) (run_nx (st_set (ev_call2 (ev_var rfl) el e3)) (run_nx (ifs_false (μ' := ν3) ?_ run_nil) (run_nx (st_set (ev_call2 (ev_var rfl) (ev_lst3 (ev_var rfl) (ev_bif2 ev_cst (ev_bin (ev_var rfl) (ev_call2 (ev_var rfl) ev_cst e4) add_nat) (min_nat (m := 100))) ev_cst) e5)) (run_rt (st_ret (ev_tup3 ev_cst (ev_var rfl) (ev_var rfl))))))))))⟩
    rw [evalT, tv_bl (k := false) (ev_var rfl), bind_ok, if_neg (by decide)]
theorem atom2_drawn (h : Bx ν) : ∃ a ν', okAt a.2 ∧ Bx ν' ∧ (gg (k + 4)).call n_law_atom [.ref 0, .bl false] ν = .ok (amD a) ν' := by
  obtain ⟨r1, ν1, hr1, h1, e1⟩ := draw_ok (k := k + 2) h (m := 6) (by decide)
  obtain ⟨a, ν2, ha, h2, e2⟩ := atom_drawn (k := k) h1
  by_cases z : r1 = 0
  · exact ⟨(true, a), ν2, ha, h2, call_of c_law_atom (by rw [h2.len, h.len]) (run_nx (st_set (ev_call2 (ev_var rfl) ev_cst e1)) (run_rt (ifs_true (tv_bl (ev_cmp (ev_var rfl) ev_cst ((eq_nat (n := 0)).trans (by rw [decide_eq_true z])))) (run_rt (st_ret (ev_tup2 ev_cst (ev_call2 (ev_var rfl) (ev_var rfl) e2)))))))⟩
  · exact ⟨(false, a), ν2, ha, h2, call_of c_law_atom (by rw [h2.len, h.len]) (run_nx (st_set (ev_call2 (ev_var rfl) ev_cst e1)) (run_nx (ifs_false (tv_bl (ev_cmp (ev_var rfl) ev_cst ((eq_nat (n := 0)).trans (by rw [decide_eq_false z])))) run_nil) (run_rt (st_ret (ev_call2 (ev_var rfl) (ev_var rfl) e2)))))⟩
theorem choose_l {α : Type} {g : α → D} {Q : α → Prop} : ∀ {l : List D}, (∀ y ∈ l, ∃ a, y = g a ∧ Q a) → ∃ as : List α, l = as.map g ∧ ∀ a ∈ as, Q a
  | [], _ => ⟨[], rfl, fun _ h => nomatch h⟩
  | y :: l, h => by
    obtain ⟨a, rfl, ha⟩ := h y (List.mem_cons_self ..)
    obtain ⟨as, rfl, has⟩ := choose_l (l := l) fun y hy => h y (List.mem_cons_of_mem _ hy)
    exact ⟨a :: as, rfl, fun b hb => by
      rcases List.mem_cons.mp hb with e | e
      · rw [e]; exact ha
      · exact has b e⟩
theorem many_drawn {ρ : Rho} (hρ : ρ[0]? = some (some (.ref 0))) (h : Bx ν) : ∃ n ν', n ≤ 3 ∧ Bx ν' ∧ evalIt (gg (k + 1)) (.rng1 (.bin .add (.cst (.int 1)) (.call 20 (.cons (.var 0) (.cons (.cst (.int 3)) .nil))))) ρ ν = .ok (rngD 0 n, none) ν' := by
  obtain ⟨r, ν1, hr, h1, e⟩ := draw_ok (k := k) h (m := 3) (by decide)
  exact ⟨1 + r, ν1, by omega, h1, it_rng1 (n := 1 + r) (ev_bin ev_cst (ev_call2 (ev_var hρ) ev_cst e) (add_nat (m := 1))) rfl (by omega)⟩
theorem condition_drawn (h : Bx ν) : ∃ c ν', okCd c ∧ smCd c ∧ Bx ν' ∧ (gg (k + 5)).call n_law_number_condition [.ref 0, .bl false] ν = .ok (cdD c) ν' := by
  obtain ⟨n, ν1, hn, h1, e1⟩ := many_drawn (k := k + 3) (ρ := startR f_law_number_condition.N.length [.ref 0, .bl false]) rfl h
  have step : ∀ d ∈ rngD 0 n, ∀ ν, Bx ν → ∃ y ν', cbody (gg (k + 4)) [3] (.nm 3) .yes (.bif .tuple (.cons (.comp [2] (.nm 2) (.rng1 (.bin .add (.cst (.int 1)) (.call 20 (.cons (.var 0) (.cons (.cst (.int 3)) .nil))))) .yes (.call 23 (.cons (.var 0) (.cons (.var 1) .nil)))) .nil)) (startR f_law_number_condition.N.length [.ref 0, .bl false]) d ν = .ok (some y) ν' ∧ (∃ as : List (Bool × At), y = .tup (as.map amD) ∧ (∀ a ∈ as, okAt a.2) ∧ as.length ≤ 10) ∧ Bx ν' := by
    intro d _ ν hb
    obtain ⟨m, ν2, hm, h2, e2⟩ := many_drawn (k := k + 3) (ρ := (wipeR (startR f_law_number_condition.N.length [.ref 0, .bl false]) [3]).set 3 (some d)) rfl hb
    obtain ⟨l, ν3, e3, h3, h4, h5⟩ := comp_inv (f := cbody (gg (k + 4)) [2] (.nm 2) .yes (.call 23 (.cons (.var 0) (.cons (.var 1) .nil))) ((wipeR (startR f_law_number_condition.N.length [.ref 0, .bl false]) [3]).set 3 (some d))) Bx (fun y => ∃ a : Bool × At, y = amD a ∧ okAt a.2) (ds := rngD 0 m) (acc := []) (μ := ν2) (fun d' _ ν hb => by
      obtain ⟨a, ν', q1, q2, q3⟩ := atom2_drawn (k := k) hb
      exact ⟨amD a, ν', cbody_nm (ev_call2 (ev_var rfl) (ev_var rfl) q3), ⟨a, rfl, q1⟩, q2⟩) (by simp [rngD]; omega) (fun _ h => nomatch h) h2
    obtain ⟨as, rfl, has⟩ := choose_l h3
    refine ⟨.tup (as.map amD), ν3, cbody_nm (ev_bif1 (ev_comp e2 e3) tuple_lst), ⟨as, rfl, has, ?_⟩, h5⟩
    simp [rngD] at h4
    omega
  obtain ⟨l, ν2, e2, h2, h3, h4⟩ := comp_inv Bx _ (ds := rngD 0 n) (acc := []) (μ := ν1) step (by simp [rngD]; omega) (fun _ h => nomatch h) h1
  obtain ⟨c, rfl, hc⟩ := choose_l h2
  refine ⟨c, ν2, fun as has a ha => (hc as has).1 a ha, ⟨?_, fun as has => (hc as has).2⟩, h4, call_of c_law_number_condition (by rw [h4.len, h.len]) (run_rt (st_ret (ev_bif1 (ev_comp e1 e2) tuple_lst)))⟩
  simp [rngD] at h3
  omega
end
end PyI.K01
/-! Q20: the law's turn over one set. -/
namespace PyI.K01
open PySem L2 PyProof.Rows
section
variable {f : Nat → Bool} {B P p s : Nat}
theorem Rp.sizes (h : Rp f B P p s) : (∀ r ∈ runs f s, r.1 ≤ r.2 ∧ r.2 ≤ 1000) ∧ (runs f s).length ≤ 300 ∧ s ≤ 1000 ∧ p ≤ 1000 ∧ (∀ r ∈ rests f p, r ≤ 1000) ∧ (rests f p).length ≤ 300 := by
  have h1 := h.sle
  have h2 := h.le
  have h3 := runs_len f s
  refine ⟨fun r hr => ?_, by omega, by omega, by omega, fun r hr => ?_, ?_⟩
  · have := (runs_ok f s).ok r hr
    exact ⟨this.1, by omega⟩
  · have := (mem_rests.mp hr).1
    omega
  · have h4 : (rests f p).length ≤ (List.range p).length := List.length_filter_le ..
    rw [List.length_range] at h4
    omega
theorem lk_int {n m : Nat} : lk n (nD m) := by cases n <;> trivial
theorem lk_set (h : Rp f B P p s) : lk 4 (theSet f p s) := by
  obtain ⟨h1, h2, h3, h4, h5, h6⟩ := h.sizes
  refine ⟨by simp, fun x hx => ?_⟩
  simp only [List.mem_cons, List.not_mem_nil, or_false] at hx
  rcases hx with rfl | rfl | rfl | rfl
  · exact ⟨by decide +kernel, by decide +kernel⟩
  · refine ⟨by simp, fun x hx => ?_⟩
    simp only [List.mem_cons, List.not_mem_nil, or_false] at hx
    rcases hx with rfl | rfl
    · refine ⟨by rw [List.length_map]; omega, fun x hx => ?_⟩
      obtain ⟨r, hr, rfl⟩ := List.mem_map.mp hx
      refine ⟨by simp, fun x hx => ?_⟩
      simp only [List.mem_cons, List.not_mem_nil, or_false] at hx
      rcases hx with rfl | rfl <;> trivial
    · trivial
  · trivial
  · refine ⟨by rw [List.length_map]; omega, fun x hx => ?_⟩
    obtain ⟨r, hr, rfl⟩ := List.mem_map.mp hx
    exact lk_int
theorem setL_len (h : Rp f B P p s) : (setL (runs f s) s p (rests f p)).length ≤ 9000 := by
  obtain ⟨h1, h2, h3, h4, h5, h6⟩ := h.sizes
  have f2 := (fromL_len h3 h4 h5 h6).2
  have f3 := spans_len h1 h2
  unfold setL
  split
  · split
    · simp
    · omega
  · split
    · omega
    · simp only [List.length_append, List.length_cons, List.length_nil]; omega
theorem lk_text (h : Rp f B P p s) : lk 4 (.str (tx (setL (runs f s) s p (rests f p)))) := ⟨by rw [tx_l]; exact fine_set _ _ _ _, by rw [tx_len]; exact setL_len h⟩
theorem count_eq (h : Rp f B P p s) (hr : rests f p = []) : ((List.range (B + 3 * P)).filter f).length = ((List.range s).filter f).length := by
  have hs := h.start
  obtain ⟨m, hm⟩ : ∃ m, B + 3 * P = s + m := ⟨B + 3 * P - s, by omega⟩
  rw [hm, List.range_add, List.filter_append, List.length_append]
  have : ((List.range m).map fun x => s + x).filter f = [] := by
    rw [List.filter_eq_nil_iff]
    intro x hx
    obtain ⟨j, _, rfl⟩ := List.mem_map.mp hx
    rw [h.bit' (by omega), hr]; simp
  rw [this]
  rfl
/-- the first member from n on, as the law finds it -/
def lawL (f : Nat → Bool) (many n : Nat) : D := (((((List.range many).filter f).filter fun m => decide (n ≤ m)).map nD) ++ [D.non]).headD .non
theorem lawL_ok (h : Rp f B P p s) {n : Nat} (hn : n < B + P) : IsL f n (lawL f (B + 3 * P) n) := by
  unfold lawL
  cases e : ((List.range (B + 3 * P)).filter f).filter fun m => decide (n ≤ m) with
  | nil =>
    refine .inr ⟨rfl, fun i hi => ?_⟩
    have low : ∀ i, n ≤ i → i < B + 3 * P → f i = false := fun i h1 h2 => by
      cases hf : f i with
      | false => rfl
      | true =>
        have : i ∈ ((List.range (B + 3 * P)).filter f).filter fun m => decide (n ≤ m) := List.mem_filter.mpr ⟨List.mem_filter.mpr ⟨List.mem_range.mpr h2, hf⟩, decide_eq_true h1⟩
        rw [e] at this; cases this
    rcases Nat.lt_or_ge i (B + 3 * P) with z | z
    · exact low i hi z
    · have hr := Nat.mod_lt (i - (B + 2 * P)) h.pos
      have := Nat.div_add_mod (i - (B + 2 * P)) P
      have e1 : f i = f (B + 2 * P + (i - (B + 2 * P)) % P) := Per.at h.per (by omega) (by omega) (by
        have e0 : (B + 2 * P + (i - (B + 2 * P)) % P) + P * ((i - (B + 2 * P)) / P) = i := by omega
        have e9 := Nat.add_mul_mod_self_left (B + 2 * P + (i - (B + 2 * P)) % P) P ((i - (B + 2 * P)) / P)
        rw [e0] at e9
        exact e9)
      rw [e1]
      exact low _ (by omega) (by omega)
  | cons m l =>
    have hm : m ∈ ((List.range (B + 3 * P)).filter f).filter fun m => decide (n ≤ m) := by rw [e]; exact List.mem_cons_self ..
    obtain ⟨h1, h2⟩ := List.mem_filter.mp hm
    obtain ⟨h3, h4⟩ := List.mem_filter.mp h1
    refine .inl ⟨m, rfl, of_decide_eq_true h2, h4, fun i q1 q2 => ?_⟩
    cases hf : f i with
    | false => rfl
    | true =>
      have hi : i ∈ ((List.range (B + 3 * P)).filter f).filter fun m => decide (n ≤ m) := List.mem_filter.mpr ⟨List.mem_filter.mpr ⟨List.mem_range.mpr (by have := List.mem_range.mp h3; omega), hf⟩, decide_eq_true q1⟩
      have up : (((List.range (B + 3 * P)).filter f).filter fun m => decide (n ≤ m)).Pairwise (· < ·) := List.Pairwise.filter _ (List.Pairwise.filter _ List.pairwise_lt_range)
      rw [e] at hi up
      rcases List.mem_cons.mp hi with w | w
      · omega
      · have := (List.pairwise_cons.mp up).1 i w
        omega
end
section
variable {k : Nat} {ν : Mu} {f : Nat → Bool} {B P p s : Nat}
abbrev tBody : PyI.B := forB (nthS b_law 1)
abbrev kBody : PyI.B := forB (nthS tBody 6)
abbrev nBody : PyI.B := forB (nthS kBody 4)
theorem tv_like {ρ : Rho} {μ μ1 μ2 : Mu} {a b : E} {d : D} (ha : evalE (gg (k + 9)) a ρ μ = .ok d μ1) (hb : evalE (gg (k + 9)) b ρ μ1 = .ok d μ2) (h : lk 4 d) : evalT (gg (k + 9)) (.not (.val (.call 22 (.cons a (.cons b .nil))))) ρ μ = .ok false μ2 :=
  tv_not (tv_bl (ev_call2 ha hb (like_ok 4 (k := k + 4) h)))
theorem tv_or_ff {Γ : G} {ρ : Rho} {μ μ1 μ2 : Mu} {t u : T} (ht : evalT Γ t ρ μ = .ok false μ1) (hu : evalT Γ u ρ μ1 = .ok false μ2) : evalT Γ (.or t u) ρ μ = .ok false μ2 := by
  rw [evalT, ht, bind_ok, if_neg (by decide), hu]
theorem lk_isl {n : Nat} {d : D} (h : IsL f n d) : lk 4 d := by
  rcases h with ⟨m, rfl, _⟩ | ⟨rfl, _⟩
  · exact lk_int
  · trivial
theorem nturn (h : Rp f B P p s) {i n : Nat} (hn : n < B + P) {FL TL : List D} (hF : FL[i]? = some (flags f (B + 3 * P))) (hT : TL[i]? = some (theSet f p s)) (hm : B + 3 * P ≤ 1000) {x0 x1 x2 x3 x4 x5 x6 x10 o12 o13 o14 o15 o16 o17 o18 : Option D} :
    fbody (gg (k + 9)) (.nm 12) nBody (nD n) [x0, x1, x2, x3, x4, x5, x6, some (.lst FL), some (.lst TL), some (nD i), x10, some (.lst (((List.range (B + 3 * P)).filter f).map nD)), o12, o13, o14, o15, o16, o17, o18] ν =
      .nx [x0, x1, x2, x3, x4, x5, x6, some (.lst FL), some (.lst TL), some (nD i), x10, some (.lst (((List.range (B + 3 * P)).filter f).map nD)), some (nD n), o13, o14, o15, o16, o17, o18] ν := by
  rw [fbody_nm]
  obtain ⟨d, e, hd⟩ := least_ok (k := k + 8) (μ := ν) h (n := n)
  have ed := hd.uniq (lawL_ok h hn)
  subst ed
  have hlen : (((List.range (B + 3 * P)).filter f).filter fun m => decide (n ≤ m)).length ≤ 1000 := by
    have h1 : (((List.range (B + 3 * P)).filter f).filter fun m => decide (n ≤ m)).length ≤ ((List.range (B + 3 * P)).filter f).length := List.length_filter_le ..
    have h2 : ((List.range (B + 3 * P)).filter f).length ≤ (List.range (B + 3 * P)).length := List.length_filter_le ..
    rw [List.length_range] at h2
    omega
  have e1 : ∀ {ρ : Rho}, ρ[11]? = some (some (.lst (((List.range (B + 3 * P)).filter f).map nD))) → ρ[12]? = some (some (nD n)) → (wipeR ρ [18])[12]? = some (some (nD n)) → (∀ d, ((wipeR ρ [18]).set 18 (some d))[18]? = some (some d)) → (∀ d, ((wipeR ρ [18]).set 18 (some d))[12]? = some (some (nD n))) →
      evalE (gg (k + 9)) (.idx (.bin .add (.comp [18] (.nm 18) (.seq (.var 11)) (.val (.cmp .ge (.var 18) (.var 12))) (.var 18)) (.lst (.cons (.cst .non) .nil))) (.cst (.int 0))) ρ ν = .ok (lawL f (B + 3 * P) n) ν := fun {ρ} q1 q2 q3 q4 q5 => by
    have c : evalE (gg (k + 9)) (.comp [18] (.nm 18) (.seq (.var 11)) (.val (.cmp .ge (.var 18) (.var 12))) (.var 18)) ρ ν = .ok (.lst ((((List.range (B + 3 * P)).filter f).filter fun m => decide (n ≤ m)).map nD)) ν := by
      refine ev_comp (it_lst (ev_var q1)) (comp_filter (c := fun m => decide (n ≤ m)) (g := nD) (fun m hm' => cbody_if (tv_bl (ev_cmp (ev_var (q4 _)) (ev_var (q5 _)) ge_nat)) (ev_var (q4 _))) ?_)
      have h2 : ((List.range (B + 3 * P)).filter f).length ≤ (List.range (B + 3 * P)).length := List.length_filter_le ..
      rw [List.length_range] at h2
      simp only [List.length_nil]; omega
    refine ev_idx (ev_bin c (ev_lst1 ev_cst) (add_lst (by rw [List.length_map, List.length_singleton]; omega))) ev_cst ?_
    unfold lawL
    cases (((List.range (B + 3 * P)).filter f).filter fun m => decide (n ≤ m)).map nD with
    | nil => exact il0
    | cons a l => exact il0
  have t1 : evalT (gg (k + 9)) (.not (.val (.call 22 (.cons (.call 15 (.cons (.idx (.var 8) (.var 9)) (.cons (.var 12) .nil))) (.cons (.idx (.bin .add (.comp [18] (.nm 18) (.seq (.var 11)) (.val (.cmp .ge (.var 18) (.var 12))) (.var 18)) (.lst (.cons (.cst .non) .nil))) (.cst (.int 0))) .nil))))) [x0, x1, x2, x3, x4, x5, x6, some (.lst FL), some (.lst TL), some (nD i), x10, some (.lst (((List.range (B + 3 * P)).filter f).map nD)), some (nD n), o13, o14, o15, o16, o17, o18] ν = .ok false ν :=
    tv_like (ev_call2 (ev_idx (ev_var rfl) (ev_var rfl) (ix_lst hT)) (ev_var rfl) e) (e1 rfl rfl rfl (fun _ => rfl) (fun _ => rfl)) (lk_isl hd)
  have t2 : evalT (gg (k + 9)) (.not (.val (.call 22 (.cons (.call 11 (.cons (.idx (.var 8) (.var 9)) (.cons (.var 12) .nil))) (.cons (.idx (.idx (.var 7) (.var 9)) (.var 12)) .nil))))) [x0, x1, x2, x3, x4, x5, x6, some (.lst FL), some (.lst TL), some (nD i), x10, some (.lst (((List.range (B + 3 * P)).filter f).map nD)), some (nD n), o13, o14, o15, o16, o17, o18] ν = .ok false ν :=
    tv_like (ev_call2 (ev_idx (ev_var rfl) (ev_var rfl) (ix_lst hT)) (ev_var rfl) (is_in_ok (k := k + 8) h)) (ev_idx (ev_idx (ev_var rfl) (ev_var rfl) (ix_lst hF)) (ev_var rfl) (flag_at (by omega))) (by trivial)
  exact run_nx (ifs_false (tv_or_ff t1 t2) run_nil) run_nil
end
end PyI.K01
/-! Q21: the law's look at one set. -/
namespace PyI.K01
open PySem L2 PyProof.Rows
section
variable {k : Nat} {ν : Mu} {f : Nat → Bool} {B P p s : Nat}
theorem ev_lst4 {Γ : G} {ρ : Rho} {μ μ1 μ2 μ3 μ4 : Mu} {a b c d : E} {x y z w : D} (h : evalE Γ a ρ μ = .ok x μ1) (h2 : evalE Γ b ρ μ1 = .ok y μ2) (h3 : evalE Γ c ρ μ2 = .ok z μ3) (h4 : evalE Γ d ρ μ3 = .ok w μ4) : evalE Γ (.lst (.cons a (.cons b (.cons c (.cons d .nil))))) ρ μ = .ok (.lst [x, y, z, w]) μ4 := by
  rw [evalE, evalEs, h, bind_ok, evalEs, h2, bind_ok, evalEs, h3, bind_ok, evalEs, h4, bind_ok, evalEs, bind_ok, bind_ok, bind_ok, bind_ok, bind_ok, needs_pos (by simp)]
theorem n_loop (h : Rp f B P p s) {i : Nat} {FL TL : List D} (hF : FL[i]? = some (flags f (B + 3 * P))) (hT : TL[i]? = some (theSet f p s)) (hm : B + 3 * P ≤ 1000) {x0 x1 x2 x3 x4 x5 x6 x10 o13 o14 o15 o16 o17 o18 : Option D} : ∀ (l : List Nat) (o12 : Option D), (∀ n ∈ l, n < B + P) →
    ∃ o, forLoop (fbody (gg (k + 9)) (.nm 12) nBody) (chkOf none) (l.map nD) [x0, x1, x2, x3, x4, x5, x6, some (.lst FL), some (.lst TL), some (nD i), x10, some (.lst (((List.range (B + 3 * P)).filter f).map nD)), o12, o13, o14, o15, o16, o17, o18] ν =
      .nx [x0, x1, x2, x3, x4, x5, x6, some (.lst FL), some (.lst TL), some (nD i), x10, some (.lst (((List.range (B + 3 * P)).filter f).map nD)), o, o13, o14, o15, o16, o17, o18] ν
  | [], o12, _ => ⟨o12, for_nil⟩
  | n :: l, o12, hl => by
    obtain ⟨o, e⟩ := n_loop h hF hT hm l (some (nD n)) fun m hm => hl m (List.mem_cons_of_mem _ hm)
    refine ⟨o, ?_⟩
    rw [List.map_cons]
    exact for_cons_nx (nturn h (hl n (List.mem_cons_self ..)) hF hT hm) e
theorem kturn (h : Rp f B P p s) (hB : B ≤ 101) (hb : Bx ν) {i : Nat} {FL TL : List D} (hF : FL[i]? = some (flags f (B + 3 * P))) (hT : TL[i]? = some (theSet f p s)) {x0 x2 x3 o9 o10 o11 o12 o13 o14 o15 o16 o17 o18 : Option D} :
    ∃ ν' a9 a10 a11 a12, Bx ν' ∧ fbody (gg (k + 9)) (.nm 9) kBody (nD i) [x0, some (.ref 0), x2, x3, some (nD P), some (nD B), some (nD (B + 3 * P)), some (.lst FL), some (.lst TL), o9, o10, o11, o12, o13, o14, o15, o16, o17, o18] ν =
      .nx [x0, some (.ref 0), x2, x3, some (nD P), some (nD B), some (nD (B + 3 * P)), some (.lst FL), some (.lst TL), a9, a10, a11, a12, o13, o14, o15, o16, o17, o18] ν' := by
  have hP : P ≤ 100 := Nat.le_of_dvd (by decide) h.dv
  have hm : B + 3 * P ≤ 1000 := by omega
  obtain ⟨z1, z2, z3, z4, z5, z6⟩ := h.sizes
  have hP0 := h.pos
  -- the four numbers
  obtain ⟨r1, ν1, hr1, h1, e1⟩ := draw_ok (k := k + 8) hb (m := B + 1) (by omega)
  obtain ⟨r2, ν2, hr2, h2, e2⟩ := draw_ok (k := k + 8) h1 (m := P) h.pos
  have e0 := set_of_flags (k := k + 8) (μ := ν) h (by omega) hb.pure
  have ek : evalE (gg (k + 9)) (.comp [12] (.nm 12) (.rng1 (.var 6)) (.val (.idx (.idx (.var 7) (.var 9)) (.var 12))) (.var 12)) [x0, some (.ref 0), x2, x3, some (nD P), some (nD B), some (nD (B + 3 * P)), some (.lst FL), some (.lst TL), some (nD i), some (theSet f p s), o11, o12, o13, o14, o15, o16, o17, o18] ν = .ok (.lst (((List.range (B + 3 * P)).filter f).map nD)) ν := by
    refine ev_comp (ds := (List.range (B + 3 * P)).map nD) ((it_rng1 (n := B + 3 * P) (ev_var rfl) rfl (by omega)).trans (by rw [rng0])) (comp_filter (c := f) (g := nD) (fun n hn => ?_) (by simp; omega))
    exact cbody_if (tv_bl (ev_idx (ev_idx (ev_var rfl) (ev_var rfl) (ix_lst hF)) (ev_var rfl) (flag_at (List.mem_range.mp hn)))) (ev_var rfl)
  have t1 : evalT (gg (k + 9)) (.not (.val (.call 22 (.cons (.idx (.var 8) (.var 9)) (.cons (.var 10) .nil))))) [x0, some (.ref 0), x2, x3, some (nD P), some (nD B), some (nD (B + 3 * P)), some (.lst FL), some (.lst TL), some (nD i), some (theSet f p s), o11, o12, o13, o14, o15, o16, o17, o18] ν = .ok false ν :=
    tv_like (ev_idx (ev_var rfl) (ev_var rfl) (ix_lst hT)) (ev_var rfl) (lk_set h)
  have t2 : evalT (gg (k + 9)) (.not (.val (.call 22 (.cons (.call 17 (.cons (.idx (.var 8) (.var 9)) .nil)) (.cons (.call 34 (.cons (.var 10) .nil)) .nil))))) [x0, some (.ref 0), x2, x3, some (nD P), some (nD B), some (nD (B + 3 * P)), some (.lst FL), some (.lst TL), some (nD i), some (theSet f p s), o11, o12, o13, o14, o15, o16, o17, o18] ν = .ok false ν :=
    tv_like (ev_call1 (ev_idx (ev_var rfl) (ev_var rfl) (ix_lst hT)) (show_set (k := k + 7) z1 z2 z3 z4 z5 z6 hb.pure)) (ev_call1 (ev_var rfl) (set_text (k := k + 8) z1 z2 z3 z4 z5 z6)) (lk_text h)
  have et0 : ∀ {ρ : Rho}, evalE (gg (k + 9)) (.tup .nil) ρ ν = .ok (.tup []) ν := fun {ρ} => by
    rw [evalE, evalEs, bind_ok, needs_pos (by simp)]
  have t3 : evalT (gg (k + 9)) (.not (.val (.call 22 (.cons (.call 16 (.cons (.idx (.var 8) (.var 9)) .nil)) (.cons (.idx (.lst (.cons (.bif .len (.cons (.var 11) .nil)) (.cons (.cst .non) .nil))) (.bif .int (.cons (.cmp .ne (.idx (.var 10) (.cst (.int 3))) (.tup .nil)) .nil))) .nil))))) [x0, some (.ref 0), x2, x3, some (nD P), some (nD B), some (nD (B + 3 * P)), some (.lst FL), some (.lst TL), some (nD i), some (theSet f p s), some (.lst (((List.range (B + 3 * P)).filter f).map nD)), o12, o13, o14, o15, o16, o17, o18] ν = .ok false ν := by
    have es := size_ok (k := k + 8) (μ := ν) h
    refine tv_like (ev_call1 (ev_idx (ev_var rfl) (ev_var rfl) (ix_lst hT)) es) (ev_idx (ev_lst2 (ev_bif1 (ev_var rfl) len_lst) ev_cst) (ev_bif1 (ev_cmp (ev_idx (ev_var rfl) ev_cst ix3) et0 ne_nDs_nil) rfl) ?_) ?_
    · by_cases z : rests f p = []
      · rw [decide_eq_true z, if_pos z, ← count_eq h z, List.length_map]
        exact il0
      · rw [decide_eq_false z, if_neg z]
        exact il1
    · split
      · exact lk_int
      · trivial
  have el : evalE (gg (k + 9)) (.lst (.cons (.cst (.int 0)) (.cons (.call 20 (.cons (.var 1) (.cons (.bin .add (.var 5) (.cst (.int 1))) .nil))) (.cons (.var 5) (.cons (.bin .add (.var 5) (.call 20 (.cons (.var 1) (.cons (.var 4) .nil)))) .nil))))) [x0, some (.ref 0), x2, x3, some (nD P), some (nD B), some (nD (B + 3 * P)), some (.lst FL), some (.lst TL), some (nD i), some (theSet f p s), some (.lst (((List.range (B + 3 * P)).filter f).map nD)), o12, o13, o14, o15, o16, o17, o18] ν = .ok (.lst ([0, r1, B, B + r2].map nD)) ν2 :=
    ev_lst4 ev_cst (ev_call2 (ev_var rfl) (ev_bin (ev_var rfl) ev_cst (add_nat (n := 1))) e1) (ev_var rfl) (ev_bin (ev_var rfl) (ev_call2 (ev_var rfl) (ev_var rfl) e2) add_nat)
  obtain ⟨o, eL⟩ := n_loop (k := k) (ν := ν2) h hF hT hm (x0 := x0) (x1 := some (.ref 0)) (x2 := x2) (x3 := x3) (x4 := some (nD P)) (x5 := some (nD B)) (x6 := some (nD (B + 3 * P))) (x10 := some (theSet f p s)) (o13 := o13) (o14 := o14) (o15 := o15) (o16 := o16) (o17 := o17) (o18 := o18) [0, r1, B, B + r2] o12 (fun n hn => by
    simp only [List.mem_cons, List.not_mem_nil, or_false] at hn
    rcases hn with rfl | rfl | rfl | rfl <;> omega)
  refine ⟨ν2, some (nD i), some (theSet f p s), some (.lst (((List.range (B + 3 * P)).filter f).map nD)), o, h2, ?_⟩
  rw [fbody_nm]
  refine run_nx (st_set (ev_call3 (ev_idx (ev_var rfl) (ev_var rfl) (ix_lst hF)) (ev_var rfl) (ev_var rfl) e0)) ?_
  refine run_nx (ifs_false (tv_or_ff t1 t2) run_nil) (run_nx (st_set ek) (run_nx (ifs_false t3 run_nil) ?_))
  exact run_nx (for_run' (it_lst el) eL) run_nil
end
end PyI.K01
/-! Q22: the law. -/
namespace PyI.K01
open PySem L2 PyProof.Rows
section
variable {k : Nat} {ν : Mu}
theorem st_tp2l {Γ : G} {ρ : Rho} {μ μ1 : Mu} {i j : Nat} {e : E} {a b : D} (h : evalE Γ e ρ μ = .ok (.lst [a, b]) μ1) : runS Γ (.set (.tp [i, j]) e) ρ μ = .nx ((ρ.set i (some a)).set j (some b)) μ1 := by
  rw [runS, h, then_ok, assignT]
  rfl
theorem mul3_nat {m : Nat} {μ : Mu} : binD .mul (.int 3) (nD m) μ = .ok (nD (3 * m)) μ := by
  refine (mul_int (.inl (by decide))).trans ?_
  show Res.ok (D.int (3 * (m : Int))) μ = Res.ok (D.int ((3 * m : Nat) : Int)) μ
  rw [Int.natCast_mul]
  rfl
theorem pair_ok {ρ : Rho} (hρ : ∀ d, ((wipeR ρ [9]).set 9 (some d))[1]? = some (some (.ref 0))) (h : Bx ν) : ∃ c0 c1 ν', (∀ c ∈ [c0, c1], okCd c ∧ smCd c) ∧ Bx ν' ∧ evalE (gg (k + 9)) (.comp [9] (.nm 9) (.rng1 (.cst (.int 2))) .yes (.call 25 (.cons (.var 1) (.cons (.cst (.bl false)) .nil)))) ρ ν = .ok (.lst ([c0, c1].map cdD)) ν' := by
  obtain ⟨l, ν1, e1, h2, h3, h4⟩ := comp_inv (f := cbody (gg (k + 9)) [9] (.nm 9) .yes (.call 25 (.cons (.var 1) (.cons (.cst (.bl false)) .nil))) ρ) Bx (fun y => ∃ c : Cd, y = cdD c ∧ (okCd c ∧ smCd c)) (ds := rngD 0 2) (acc := []) (μ := ν) (fun d _ ν hb => by
    obtain ⟨c, ν', q1, q2, q3, q4⟩ := condition_drawn (k := k + 4) hb
    exact ⟨cdD c, ν', cbody_nm (ev_call2 (ev_var (hρ d)) ev_cst q4), ⟨c, rfl, q1, q2⟩, q3⟩) (by decide) (fun _ h => nomatch h) h
  obtain ⟨cs, rfl, hc⟩ := choose_l h2
  have hl : cs.length = 2 := by simpa [rngD] using h3
  match cs, hl with
  | [c0, c1], _ => exact ⟨c0, c1, ν1, hc, h4, ev_comp (it_rng1 (n := 2) ev_cst rfl (by decide)) e1⟩
theorem flags_ok {cs : List Cd} (hc : ∀ c ∈ cs, okCd c ∧ smCd c) (hl : cs.length ≤ 5) {many : Nat} (hm : many ≤ 1000) {ρ : Rho} (h3 : ρ[3]? = some (some (.lst (cs.map cdD)))) (h6 : ∀ d, ((wipeR ρ [17]).set 17 (some d))[6]? = some (some (nD many)))
    (hv : ∀ d e, ((wipeR ((wipeR ρ [17]).set 17 (some d)) [12]).set 12 (some e))[17]? = some (some d)) (hv2 : ∀ d e, ((wipeR ((wipeR ρ [17]).set 17 (some d)) [12]).set 12 (some e))[12]? = some (some e)) :
    evalE (gg (k + 9)) (.comp [17] (.nm 17) (.seq (.var 3)) .yes (.comp [12] (.nm 12) (.rng1 (.var 6)) .yes (.call 27 (.cons (.var 17) (.cons (.var 12) .nil))))) ρ ν = .ok (.lst (cs.map fun c => flags (hCd c) many)) ν := by
  refine ev_comp (it_lst (ev_var h3)) (comp_all (g := fun c => flags (hCd c) many) (fun c hcm => cbody_nm ?_) (by omega))
  refine ev_comp (ds := (List.range many).map nD) ((it_rng1 (n := many) (ev_var (h6 _)) rfl (by omega)).trans (by rw [rng0])) (comp_all (g := flD (hCd c)) (fun n _ => cbody_nm ?_) (by simp; omega))
  exact ev_call2 (ev_var (hv _ _)) (ev_var (hv2 _ _)) (number_holds (k := k + 6) (hc c hcm).1 (hc c hcm).2)
theorem due_ok {f g : Nat → Bool} {many : Nat} (hm : many ≤ 1000) {ρ : Rho} {e : E} {q : Bool → Bool → Bool} (h6 : ρ[6]? = some (some (nD many)))
    (he : ∀ n, n < many → evalE (gg (k + 9)) e ((wipeR ρ [12]).set 12 (some (nD n))) ν = .ok (.bl (q (f n) (g n))) ν) : evalE (gg (k + 9)) (.comp [12] (.nm 12) (.rng1 (.var 6)) .yes e) ρ ν = .ok (flags (fun n => q (f n) (g n)) many) ν :=
  ev_comp (ds := (List.range many).map nD) ((it_rng1 (n := many) (ev_var h6) rfl (by omega)).trans (by rw [rng0])) (comp_all (g := flD fun n => q (f n) (g n)) (fun n hn => cbody_nm (he n (List.mem_range.mp hn))) (by simp; omega))
theorem ev_orb {Γ : G} {ρ : Rho} {μ : Mu} {a b : E} {u v : Bool} (ha : evalE Γ a ρ μ = .ok (.bl u) μ) (hb : evalE Γ b ρ μ = .ok (.bl v) μ) : evalE Γ (.or a b) ρ μ = .ok (.bl (u || v)) μ := by
  cases u with
  | true => exact ev_or_t ha rfl
  | false => exact ev_or_f ha rfl hb
theorem ev_andb {Γ : G} {ρ : Rho} {μ : Mu} {a b : E} {u v : Bool} (ha : evalE Γ a ρ μ = .ok (.bl u) μ) (hb : evalE Γ b ρ μ = .ok (.bl v) μ) : evalE Γ (.and a b) ρ μ = .ok (.bl (u && v)) μ := by
  cases u with
  | true => exact ev_and_t ha rfl hb
  | false => exact ev_and_f ha rfl
abbrev wBody : PyI.B := forB (nthS tBody 10)
theorem wturn {g : Nat → Bool} {B P p s : Nat} (h : Rp g B P p s) (hB : B ≤ 101) (hb : Bx ν) {i : Nat} {DL WL : List D} (hD : DL[i]? = some (flags g (B + 3 * P))) (hW : WL[i]? = some (theSet g p s)) {x0 x1 x2 x3 x6 x7 x8 o9 o10 o11 o12 o13 o14 o17 o18 : Option D} :
    fbody (gg (k + 9)) (.nm 9) wBody (nD i) [x0, x1, x2, x3, some (nD P), some (nD B), x6, x7, x8, o9, o10, o11, o12, o13, o14, some (.lst DL), some (.lst WL), o17, o18] ν =
      .nx [x0, x1, x2, x3, some (nD P), some (nD B), x6, x7, x8, some (nD i), o10, o11, o12, o13, o14, some (.lst DL), some (.lst WL), o17, o18] ν := by
  rw [fbody_nm]
  have t : evalT (gg (k + 9)) (.not (.val (.call 22 (.cons (.idx (.var 16) (.var 9)) (.cons (.call 33 (.cons (.idx (.var 15) (.var 9)) (.cons (.var 5) (.cons (.var 4) .nil)))) .nil))))) [x0, x1, x2, x3, some (nD P), some (nD B), x6, x7, x8, some (nD i), o10, o11, o12, o13, o14, some (.lst DL), some (.lst WL), o17, o18] ν = .ok false ν :=
    tv_like (ev_idx (ev_var rfl) (ev_var rfl) (ix_lst hW)) (ev_call3 (ev_idx (ev_var rfl) (ev_var rfl) (ix_lst hD)) (ev_var rfl) (ev_var rfl) (set_of_flags (k := k + 8) h (by omega) hb.pure)) (lk_set h)
  exact run_nx (ifs_false t run_nil) run_nil
theorem turn_ok (hb : Bx ν) {i : Int} {X : D} {o2 o3 o4 o5 o6 o7 o8 o9 o10 o11 o12 o13 o14 o15 o16 o17 o18 : Option D} :
    ∃ ν' a2 a3 a4 a5 a6 a7 a8 a9 a10 a11 a12 a13 a14 a15 a16 a17 a18, Bx ν' ∧ fbody (gg (k + 9)) (.nm 2) tBody (.int i) [some X, some (.ref 0), o2, o3, o4, o5, o6, o7, o8, o9, o10, o11, o12, o13, o14, o15, o16, o17, o18] ν =
      .nx [some X, some (.ref 0), a2, a3, a4, a5, a6, a7, a8, a9, a10, a11, a12, a13, a14, a15, a16, a17, a18] ν' := by
  obtain ⟨c0, c1, ν1, hc, h1, e1⟩ := pair_ok (k := k) (ρ := [some X, some (.ref 0), some (.int i), o3, o4, o5, o6, o7, o8, o9, o10, o11, o12, o13, o14, o15, o16, o17, o18]) (fun _ => rfl) hb
  have sm : ∀ c ∈ [c0, c1], smCd c := fun c h => (hc c h).2
  have ok := ok_ats (cs := [c0, c1]) fun c h => (hc c h).1
  have hln := len_ats sm
  obtain ⟨P, P0, P1, P2, eP⟩ := period_ok (k := k + 6) (μ := ν1) (cs := [c0, c1]) (by simp) sm ok
  obtain ⟨B, B1, B2, eB⟩ := bound_ok (k := k + 6) (μ := ν1) (cs := [c0, c1]) (by simp) sm ok (Nat.le_trans hln (by simp)) h1.pure
  have hP : P ≤ 100 := Nat.le_of_dvd (by decide) P1
  have per : ∀ c ∈ [c0, c1], Per (hCd c) B P := fun c h => hCd_per P2 B2 h
  have per0 := per c0 (List.mem_cons_self ..)
  have per1 := per c1 (List.mem_cons_of_mem _ (List.mem_cons_self ..))
  obtain ⟨p0, s0, r0⟩ := Rp.ex P0 P1 per0 (by omega)
  obtain ⟨p1, s1, r1⟩ := Rp.ex P0 P1 per1 (by omega)
  obtain ⟨pu, su, ru⟩ := Rp.ex (f := fun n => hCd c0 n || hCd c1 n) P0 P1 (fun n hn => by show (hCd c0 (n + P) || hCd c1 (n + P)) = _; rw [per0 n hn, per1 n hn]) (show B ≤ 200 by omega)
  obtain ⟨pb, sb, rb⟩ := Rp.ex (f := fun n => hCd c0 n && hCd c1 n) P0 P1 (fun n hn => by show (hCd c0 (n + P) && hCd c1 (n + P)) = _; rw [per0 n hn, per1 n hn]) (show B ≤ 200 by omega)
  obtain ⟨pw, sw, rw_⟩ := Rp.ex (f := fun n => hCd c0 n && !hCd c1 n) P0 P1 (fun n hn => by show (hCd c0 (n + P) && !hCd c1 (n + P)) = _; rw [per0 n hn, per1 n hn]) (show B ≤ 200 by omega)
  have ok0 := (hc c0 (List.mem_cons_self ..)).1
  have ok1 := (hc c1 (List.mem_cons_of_mem _ (List.mem_cons_self ..))).1
  have eF := flags_ok (k := k) (ν := ν1) (cs := [c0, c1]) hc (by simp) (many := B + 3 * P) (by omega) (ρ := [some X, some (.ref 0), some (.int i), some (.lst ([c0, c1].map cdD)), some (nD P), some (nD B), some (nD (B + 3 * P)), o7, o8, o9, o10, o11, o12, o13, o14, o15, o16, o17, o18]) rfl (fun _ => rfl) (fun _ _ => rfl) (fun _ _ => rfl)
  have eT : evalE (gg (k + 9)) (.comp [17] (.nm 17) (.seq (.var 3)) .yes (.call 10 (.cons (.var 17) .nil))) [some X, some (.ref 0), some (.int i), some (.lst ([c0, c1].map cdD)), some (nD P), some (nD B), some (nD (B + 3 * P)), some (.lst ([c0, c1].map fun c => flags (hCd c) (B + 3 * P))), o8, o9, o10, o11, o12, o13, o14, o15, o16, o17, o18] ν1 = .ok (.lst [theSet (hCd c0) p0 s0, theSet (hCd c1) p1 s1]) ν1 := by
    refine ev_comp (it_lst (ev_var rfl)) (comp_all (a := fun t : Cd × Nat × Nat => cdD t.1) (g := fun t : Cd × Nat × Nat => theSet (hCd t.1) t.2.1 t.2.2) (ds := [(c0, p0, s0), (c1, p1, s1)]) (fun t ht => cbody_nm ?_) (by simp))
    simp only [List.mem_cons, List.not_mem_nil, or_false] at ht
    rcases ht with rfl | rfl
    · exact ev_call1 (ev_var rfl) (set_of (k := k + 4) ok0 r0 h1.pure)
    · exact ev_call1 (ev_var rfl) (set_of (k := k + 4) ok1 r1 h1.pure)
  obtain ⟨ν2, u9, u10, u11, u12, h2, k0⟩ := kturn (k := k) (ν := ν1) (i := 0) (FL := [c0, c1].map fun c => flags (hCd c) (B + 3 * P)) (TL := [theSet (hCd c0) p0 s0, theSet (hCd c1) p1 s1]) r0 B1 h1 rfl rfl (x0 := some X) (x2 := some (.int i)) (x3 := some (.lst ([c0, c1].map cdD))) (o9 := o9) (o10 := o10) (o11 := o11) (o12 := o12) (o13 := o13) (o14 := o14) (o15 := o15) (o16 := o16) (o17 := o17) (o18 := o18)
  obtain ⟨ν3, v9, v10, v11, v12, h3, k1⟩ := kturn (k := k) (ν := ν2) (i := 1) (FL := [c0, c1].map fun c => flags (hCd c) (B + 3 * P)) (TL := [theSet (hCd c0) p0 s0, theSet (hCd c1) p1 s1]) r1 B1 h2 rfl rfl (x0 := some X) (x2 := some (.int i)) (x3 := some (.lst ([c0, c1].map cdD))) (o9 := u9) (o10 := u10) (o11 := u11) (o12 := u12) (o13 := o13) (o14 := o14) (o15 := o15) (o16 := o16) (o17 := o17) (o18 := o18)
  have kl := for_cons_nx k0 (for_cons_nx k1 for_nil)
  have dU := due_ok (k := k) (ν := ν3) (f := hCd c0) (g := hCd c1) (q := fun a b => a || b) (many := B + 3 * P) (by omega) (ρ := [some X, some (.ref 0), some (.int i), some (.lst ([c0, c1].map cdD)), some (nD P), some (nD B), some (nD (B + 3 * P)), some (.lst ([c0, c1].map fun c => flags (hCd c) (B + 3 * P))), some (.lst [theSet (hCd c0) p0 s0, theSet (hCd c1) p1 s1]), v9, v10, v11, v12, some (flags (hCd c0) (B + 3 * P)), some (flags (hCd c1) (B + 3 * P)), o15, o16, o17, o18]) (e := .or (.idx (.var 13) (.var 12)) (.idx (.var 14) (.var 12))) rfl (fun n hn => ev_orb (ev_idx (ev_var rfl) (ev_var rfl) (flag_at hn)) (ev_idx (ev_var rfl) (ev_var rfl) (flag_at hn)))
  have dB := due_ok (k := k) (ν := ν3) (f := hCd c0) (g := hCd c1) (q := fun a b => a && b) (many := B + 3 * P) (by omega) (ρ := [some X, some (.ref 0), some (.int i), some (.lst ([c0, c1].map cdD)), some (nD P), some (nD B), some (nD (B + 3 * P)), some (.lst ([c0, c1].map fun c => flags (hCd c) (B + 3 * P))), some (.lst [theSet (hCd c0) p0 s0, theSet (hCd c1) p1 s1]), v9, v10, v11, v12, some (flags (hCd c0) (B + 3 * P)), some (flags (hCd c1) (B + 3 * P)), o15, o16, o17, o18]) (e := .and (.idx (.var 13) (.var 12)) (.idx (.var 14) (.var 12))) rfl (fun n hn => ev_andb (ev_idx (ev_var rfl) (ev_var rfl) (flag_at hn)) (ev_idx (ev_var rfl) (ev_var rfl) (flag_at hn)))
  have dW := due_ok (k := k) (ν := ν3) (f := hCd c0) (g := hCd c1) (q := fun a b => a && !b) (many := B + 3 * P) (by omega) (ρ := [some X, some (.ref 0), some (.int i), some (.lst ([c0, c1].map cdD)), some (nD P), some (nD B), some (nD (B + 3 * P)), some (.lst ([c0, c1].map fun c => flags (hCd c) (B + 3 * P))), some (.lst [theSet (hCd c0) p0 s0, theSet (hCd c1) p1 s1]), v9, v10, v11, v12, some (flags (hCd c0) (B + 3 * P)), some (flags (hCd c1) (B + 3 * P)), o15, o16, o17, o18]) (e := .and (.idx (.var 13) (.var 12)) (.notv (.val (.idx (.var 14) (.var 12))))) rfl (fun n hn => ev_andb (ev_idx (ev_var rfl) (ev_var rfl) (flag_at hn)) (ev_notv (ev_idx (ev_var rfl) (ev_var rfl) (flag_at hn))))
  let DL : List D := [flags (fun n => hCd c0 n || hCd c1 n) (B + 3 * P), flags (fun n => hCd c0 n && hCd c1 n) (B + 3 * P), flags (fun n => hCd c0 n && !hCd c1 n) (B + 3 * P)]
  let WL : List D := [theSet (fun n => hCd c0 n || hCd c1 n) pu su, theSet (fun n => hCd c0 n && hCd c1 n) pb sb, theSet (fun n => hCd c0 n && !hCd c1 n) pw sw]
  have w0 := fun o9 => wturn (k := k) (ν := ν3) (i := 0) (DL := DL) (WL := WL) ru B1 h3 rfl rfl (x0 := some X) (x1 := some (.ref 0)) (x2 := some (.int i)) (x3 := some (.lst ([c0, c1].map cdD))) (x6 := some (nD (B + 3 * P))) (x7 := some (.lst ([c0, c1].map fun c => flags (hCd c) (B + 3 * P)))) (x8 := some (.lst [theSet (hCd c0) p0 s0, theSet (hCd c1) p1 s1])) (o9 := o9) (o10 := v10) (o11 := v11) (o12 := v12) (o13 := some (flags (hCd c0) (B + 3 * P))) (o14 := some (flags (hCd c1) (B + 3 * P))) (o17 := o17) (o18 := o18)
  have w1 := fun o9 => wturn (k := k) (ν := ν3) (i := 1) (DL := DL) (WL := WL) rb B1 h3 rfl rfl (x0 := some X) (x1 := some (.ref 0)) (x2 := some (.int i)) (x3 := some (.lst ([c0, c1].map cdD))) (x6 := some (nD (B + 3 * P))) (x7 := some (.lst ([c0, c1].map fun c => flags (hCd c) (B + 3 * P)))) (x8 := some (.lst [theSet (hCd c0) p0 s0, theSet (hCd c1) p1 s1])) (o9 := o9) (o10 := v10) (o11 := v11) (o12 := v12) (o13 := some (flags (hCd c0) (B + 3 * P))) (o14 := some (flags (hCd c1) (B + 3 * P))) (o17 := o17) (o18 := o18)
  have w2 := fun o9 => wturn (k := k) (ν := ν3) (i := 2) (DL := DL) (WL := WL) rw_ B1 h3 rfl rfl (x0 := some X) (x1 := some (.ref 0)) (x2 := some (.int i)) (x3 := some (.lst ([c0, c1].map cdD))) (x6 := some (nD (B + 3 * P))) (x7 := some (.lst ([c0, c1].map fun c => flags (hCd c) (B + 3 * P)))) (x8 := some (.lst [theSet (hCd c0) p0 s0, theSet (hCd c1) p1 s1])) (o9 := o9) (o10 := v10) (o11 := v11) (o12 := v12) (o13 := some (flags (hCd c0) (B + 3 * P))) (o14 := some (flags (hCd c1) (B + 3 * P))) (o17 := o17) (o18 := o18)
  have wl := for_cons_nx (w0 v9) (for_cons_nx (w1 _) (for_cons_nx (w2 _) for_nil))
  refine ⟨ν3, some (.int i), some (.lst ([c0, c1].map cdD)), some (nD P), some (nD B), some (nD (B + 3 * P)), some (.lst ([c0, c1].map fun c => flags (hCd c) (B + 3 * P))), some (.lst [theSet (hCd c0) p0 s0, theSet (hCd c1) p1 s1]), some (nD 2), v10, v11, v12, some (flags (hCd c0) (B + 3 * P)), some (flags (hCd c1) (B + 3 * P)), some (.lst DL), some (.lst WL), o17, o18, h3, ?_⟩
  rw [fbody_nm]
  refine run_nx (st_set e1) (run_nx (st_set (ev_call1 (ev_var rfl) eP)) (run_nx (st_set (ev_call1 (ev_var rfl) eB)) (run_nx (st_set (ev_bin (ev_var rfl) (ev_bin ev_cst (ev_var rfl) mul3_nat) add_nat)) ?_)))
  refine run_nx (st_set eF) (run_nx (st_set eT) (run_nx (for_run' (it_rng1 (n := 2) ev_cst rfl (by decide)) kl) (run_nx (st_tp2l (ev_var rfl)) ?_)))
  refine run_nx (st_set (ev_lst3 dU dB dW)) (run_nx (st_set (ev_lst3 (ev_call2 (ev_idx (ev_var rfl) ev_cst il0) (ev_idx (ev_var rfl) ev_cst il1) (union_ok (k := k + 5) r0 r1 ru h3.pure)) (ev_call2 (ev_idx (ev_var rfl) ev_cst il0) (ev_idx (ev_var rfl) ev_cst il1) (both_ok (k := k + 5) r0 r1 rb h3.pure)) (ev_call2 (ev_idx (ev_var rfl) ev_cst il0) (ev_idx (ev_var rfl) ev_cst il1) (without_ok (k := k + 5) r0 r1 rw_ h3.pure)))) ?_)
  exact run_nx (for_run' (it_rng1 (n := 3) ev_cst rfl (by decide)) wl) run_nil
theorem main (ns : List Int) (h : ns.length ≤ 63) : ∃ μ', callD prg.tab prg.con prg.dic prg.wf 200 n_law [.kl (ns.map D.int)] [] = .ok (.bl true) μ' := by
  obtain ⟨ds, e⟩ := digits_ok (k := 197) (ns := ns) (μ := []) (fun m hm => nomatch hm)
  generalize hX : D.kl (ns.map D.int) = X at *
  obtain ⟨ρ', μ', q1, hb, a2, a3, a4, a5, a6, a7, a8, a9, a10, a11, a12, a13, a14, a15, a16, a17, a18, rfl⟩ := for_range (f := fbody (gg (190 + 9)) (.nm 2) tBody) (lo := 0) (n := 2) (ρ := [some X, some (.ref 0), none, none, none, none, none, none, none, none, none, none, none, none, none, none, none, none, none]) (μ := [.lst [.lst (ds.map D.int), nD 0]])
    (fun _ ρ ν => Bx ν ∧ ∃ a2 a3 a4 a5 a6 a7 a8 a9 a10 a11 a12 a13 a14 a15 a16 a17 a18, ρ = [some X, some (.ref 0), a2, a3, a4, a5, a6, a7, a8, a9, a10, a11, a12, a13, a14, a15, a16, a17, a18])
    ⟨⟨ds, 0, rfl⟩, _, _, _, _, _, _, _, _, _, _, _, _, _, _, _, _, _, rfl⟩ (by
      rintro i hi ρ ν ⟨hb, a2, a3, a4, a5, a6, a7, a8, a9, a10, a11, a12, a13, a14, a15, a16, a17, a18, rfl⟩
      obtain ⟨ν', b2, b3, b4, b5, b6, b7, b8, b9, b10, b11, b12, b13, b14, b15, b16, b17, b18, h1, h2⟩ := turn_ok (k := 190) hb (i := (0 : Int) + (i : Int)) (X := X) (o2 := a2) (o3 := a3) (o4 := a4) (o5 := a5) (o6 := a6) (o7 := a7) (o8 := a8) (o9 := a9) (o10 := a10) (o11 := a11) (o12 := a12) (o13 := a13) (o14 := a14) (o15 := a15) (o16 := a16) (o17 := a17) (o18 := a18)
      exact .inl ⟨_, _, h2, h1, b2, b3, b4, b5, b6, b7, b8, b9, b10, b11, b12, b13, b14, b15, b16, b17, b18, rfl⟩)
  have full : runB (gg 199) b_law (startR f_law.N.length [X]) [] = .rt (.bl true) μ' :=
    run_nx (st_new (ev_lst2 (ev_call3 (ev_var rfl) ev_cst ev_cst e) ev_cst)) (run_nx (for_run' (it_rng1 (n := 2) ev_cst rfl (by decide)) q1) (run_rt (st_ret ev_cst)))
  obtain ⟨ds', a', rfl⟩ := hb
  refine ⟨[], ?_⟩
  show callD prg.tab prg.con prg.dic prg.wf (199 + 1) n_law [X] [] = _
  rw [c_law, full, finO_rt]
  exact fin_one (μ := []) (fun m hm => nomatch hm) rfl
end
end PyI.K01
open PySem PySem.W PyProof.Rows
set_option maxRecDepth 100000 in
set_option maxHeartbeats 0 in
theorem PySem.Challenge.cw_sensekept_k01_numbers_sets_holds : PySem.Challenge.rw_sensekept_k01_numbers_sets.Holds := by
  w_on; o_law; k_head; (case hw => w_witness2)
  k_fill
  refine PyI.law_walk (p := PyI.K01.prg) (ct := ⟨fun _ => 0⟩) (f := PyI.K01.n_law) (kk := 200) rfl rfl ⟨rfl, by decide, by decide⟩ (fun w h Y => PySem.W.kIn_of Y) PyI.K01.main ?F
  case F =>
    intro w mg fa h KX G hmg
    refine PyI.law_fn PyI.K01.prg_ok ⟨?bi, ?con, ?dic, ?fn⟩ ⟨fun _ => 0⟩ hmg rfl rfl rfl 200
    case bi =>
      refine' PyI.biAll KX G ?z0 ?z1 ?z2 ?z3 ?z4 ?z5 ?z6 ?z7 ?z8 ?z9 ?z10 ?z11 ?z12 ?z13 ?z14 ?z15 ?z16 ?z17 ?z18 ?z19 ?z20
      (case z0 => k_is); (case z1 => k_is); (case z2 => k_is); (case z3 => k_is); (case z4 => k_is); (case z5 => k_is); (case z6 => k_is); (case z7 => k_is); (case z8 => k_is); (case z9 => k_is); (case z10 => k_is); (case z11 => k_is); (case z12 => k_is); (case z13 => k_is); (case z14 => k_is); (case z15 => k_is); (case z16 => k_is); (case z17 => k_is); (case z18 => k_is); (case z19 => k_is); (case z20 => k_is)
    case con =>
      intro g x d h1 h2
      rcases g with _ | _ | _ | _ | _ | g
      · obtain rfl : ("HEAD" : PySem.Str) = x := Option.some.inj h1
        obtain rfl : ((.int 200) : PyI.D) = d := Option.some.inj h2
        refine' PyI.conInt KX G ?c; (case c => k_is)
      · obtain rfl : ("CYCLE" : PySem.Str) = x := Option.some.inj h1
        obtain rfl : ((.int 100) : PyI.D) = d := Option.some.inj h2
        refine' PyI.conInt KX G ?c; (case c => k_is)
      · obtain rfl : ("MOST" : PySem.Str) = x := Option.some.inj h1
        obtain rfl : ((.int 300) : PyI.D) = d := Option.some.inj h2
        refine' PyI.conInt KX G ?c; (case c => k_is)
      · obtain rfl : ("ALL" : PySem.Str) = x := Option.some.inj h1
        obtain rfl : ((.int 2037035976334486086268445688409378161051468393665936250636140449354381299763336706183397375) : PyI.D) = d := Option.some.inj h2
        refine' PyI.conInt KX G ?c; (case c => k_is)
      · obtain rfl : ("PERIODS" : PySem.Str) = x := Option.some.inj h1
        obtain rfl : ((.tup [(.int 1), (.int 2), (.int 4), (.int 5), (.int 10), (.int 20), (.int 25), (.int 50), (.int 100)]) : PyI.D) = d := Option.some.inj h2
        refine' PyI.conTupI (l := [1, 2, 4, 5, 10, 20, 25, 50, 100]) KX G ?c ?l ?c1 ?c2 ?c3 ?c4; (case c => k_is); (case l => k_is); (case c1 => rfl); (case c2 => rfl); (case c3 => decide); (case c4 => repeat (first | exact .nil | refine .cons ⟨_, rfl⟩ ?_))
      · cases h1
    case dic =>
      intro g x h1
      cases h1
    case fn =>
      intro d hd
      simp only [PyI.K01.prg, List.mem_cons, List.not_mem_nil, or_false] at hd
      rcases hd with rfl | rfl | rfl | rfl | rfl | rfl | rfl | rfl | rfl | rfl | rfl | rfl | rfl | rfl | rfl | rfl | rfl | rfl | rfl | rfl | rfl | rfl | rfl | rfl | rfl | rfl | rfl | rfl | rfl | rfl | rfl | rfl | rfl | rfl | rfl | rfl
      · refine' PyI.defAt (name := "condition_mask") (qual := "condition_mask") (st := PyI.K01.top 6) KX G PyI.K01.bn_condition_mask ?a ?l ?c ?k; (case a => k_is); (case l => k_is); (case c => k_is); (case k => k_is)
      · refine' PyI.defAt (name := "_atom_mask") (qual := "_atom_mask") (st := PyI.K01.top 7) KX G PyI.K01.bn_atom_mask ?a ?l ?c ?k; (case a => k_is); (case l => k_is); (case c => k_is); (case k => k_is)
      · refine' PyI.defAt (name := "_span_mask") (qual := "_span_mask") (st := PyI.K01.top 8) KX G PyI.K01.bn_span_mask ?a ?l ?c ?k; (case a => k_is); (case l => k_is); (case c => k_is); (case k => k_is)
      · refine' PyI.defAt (name := "_repeated") (qual := "_repeated") (st := PyI.K01.top 9) KX G PyI.K01.bn_repeated ?a ?l ?c ?k; (case a => k_is); (case l => k_is); (case c => k_is); (case k => k_is)
      · refine' PyI.defAt (name := "set_mask") (qual := "set_mask") (st := PyI.K01.top 10) KX G PyI.K01.bn_set_mask ?a ?l ?c ?k; (case a => k_is); (case l => k_is); (case c => k_is); (case k => k_is)
      · refine' PyI.defAt (name := "mask_set") (qual := "mask_set") (st := PyI.K01.top 11) KX G PyI.K01.bn_mask_set ?a ?l ?c ?k; (case a => k_is); (case l => k_is); (case c => k_is); (case k => k_is)
      · refine' PyI.defAt (name := "_least_period") (qual := "_least_period") (st := PyI.K01.top 12) KX G PyI.K01.bn_least_period ?a ?l ?c ?k; (case a => k_is); (case l => k_is); (case c => k_is); (case k => k_is)
      · refine' PyI.defAt (name := "_mask_spans") (qual := "_mask_spans") (st := PyI.K01.top 13) KX G PyI.K01.bn_mask_spans ?a ?l ?c ?k; (case a => k_is); (case l => k_is); (case c => k_is); (case k => k_is)
      · refine' PyI.defAt (name := "least_bit") (qual := "least_bit") (st := PyI.K01.top 14) KX G PyI.K01.bn_least_bit ?a ?l ?c ?k; (case a => k_is); (case l => k_is); (case c => k_is); (case k => k_is)
      · refine' PyI.defAt (name := "_span_text") (qual := "_span_text") (st := PyI.K01.top 16) KX G PyI.K01.bn_span_text ?a ?l ?c ?k; (case a => k_is); (case l => k_is); (case c => k_is); (case k => k_is)
      · refine' PyI.defAt (name := "set_of") (qual := "set_of") (st := PyI.K01.top 17) KX G PyI.K01.bn_set_of ?a ?l ?c ?k; (case a => k_is); (case l => k_is); (case c => k_is); (case k => k_is)
      · refine' PyI.defAt (name := "is_in") (qual := "is_in") (st := PyI.K01.top 18) KX G PyI.K01.bn_is_in ?a ?l ?c ?k; (case a => k_is); (case l => k_is); (case c => k_is); (case k => k_is)
      · refine' PyI.defAt (name := "union") (qual := "union") (st := PyI.K01.top 19) KX G PyI.K01.bn_union ?a ?l ?c ?k; (case a => k_is); (case l => k_is); (case c => k_is); (case k => k_is)
      · refine' PyI.defAt (name := "both") (qual := "both") (st := PyI.K01.top 20) KX G PyI.K01.bn_both ?a ?l ?c ?k; (case a => k_is); (case l => k_is); (case c => k_is); (case k => k_is)
      · refine' PyI.defAt (name := "without") (qual := "without") (st := PyI.K01.top 21) KX G PyI.K01.bn_without ?a ?l ?c ?k; (case a => k_is); (case l => k_is); (case c => k_is); (case k => k_is)
      · refine' PyI.defAt (name := "least") (qual := "least") (st := PyI.K01.top 22) KX G PyI.K01.bn_least ?a ?l ?c ?k; (case a => k_is); (case l => k_is); (case c => k_is); (case k => k_is)
      · refine' PyI.defAt (name := "size") (qual := "size") (st := PyI.K01.top 23) KX G PyI.K01.bn_size ?a ?l ?c ?k; (case a => k_is); (case l => k_is); (case c => k_is); (case k => k_is)
      · refine' PyI.defAt (name := "show_set") (qual := "show_set") (st := PyI.K01.top 24) KX G PyI.K01.bn_show_set ?a ?l ?c ?k; (case a => k_is); (case l => k_is); (case c => k_is); (case k => k_is)
      · refine' PyI.defAt (name := "_law_cell") (qual := "_law_cell") (st := PyI.K01.top 26) KX G PyI.K01.bn_law_cell ?a ?l ?c ?k; (case a => k_is); (case l => k_is); (case c => k_is); (case k => k_is)
      · refine' PyI.defAt (name := "_law_digits") (qual := "_law_digits") (st := PyI.K01.top 27) KX G PyI.K01.bn_law_digits ?a ?l ?c ?k; (case a => k_is); (case l => k_is); (case c => k_is); (case k => k_is)
      · refine' PyI.defAt (name := "_law_draw") (qual := "_law_draw") (st := PyI.K01.top 28) KX G PyI.K01.bn_law_draw ?a ?l ?c ?k; (case a => k_is); (case l => k_is); (case c => k_is); (case k => k_is)
      · refine' PyI.defAt (name := "_law_pick") (qual := "_law_pick") (st := PyI.K01.top 29) KX G PyI.K01.bn_law_pick ?a ?l ?c ?k; (case a => k_is); (case l => k_is); (case c => k_is); (case k => k_is)
      · refine' PyI.defAt (name := "_law_like") (qual := "_law_like") (st := PyI.K01.top 30) KX G PyI.K01.bn_law_like ?a ?l ?c ?k; (case a => k_is); (case l => k_is); (case c => k_is); (case k => k_is)
      · refine' PyI.defAt (name := "_law_atom") (qual := "_law_atom") (st := PyI.K01.top 31) KX G PyI.K01.bn_law_atom ?a ?l ?c ?k; (case a => k_is); (case l => k_is); (case c => k_is); (case k => k_is)
      · refine' PyI.defAt (name := "_law_atom_plain") (qual := "_law_atom_plain") (st := PyI.K01.top 32) KX G PyI.K01.bn_law_atom_plain ?a ?l ?c ?k; (case a => k_is); (case l => k_is); (case c => k_is); (case k => k_is)
      · refine' PyI.defAt (name := "_law_number_condition") (qual := "_law_number_condition") (st := PyI.K01.top 33) KX G PyI.K01.bn_law_number_condition ?a ?l ?c ?k; (case a => k_is); (case l => k_is); (case c => k_is); (case k => k_is)
      · refine' PyI.defAt (name := "_law_atom_holds") (qual := "_law_atom_holds") (st := PyI.K01.top 34) KX G PyI.K01.bn_law_atom_holds ?a ?l ?c ?k; (case a => k_is); (case l => k_is); (case c => k_is); (case k => k_is)
      · refine' PyI.defAt (name := "_law_number_holds") (qual := "_law_number_holds") (st := PyI.K01.top 35) KX G PyI.K01.bn_law_number_holds ?a ?l ?c ?k; (case a => k_is); (case l => k_is); (case c => k_is); (case k => k_is)
      · refine' PyI.defAt (name := "_law_bare_atom") (qual := "_law_bare_atom") (st := PyI.K01.top 36) KX G PyI.K01.bn_law_bare_atom ?a ?l ?c ?k; (case a => k_is); (case l => k_is); (case c => k_is); (case k => k_is)
      · refine' PyI.defAt (name := "_law_atoms") (qual := "_law_atoms") (st := PyI.K01.top 37) KX G PyI.K01.bn_law_atoms ?a ?l ?c ?k; (case a => k_is); (case l => k_is); (case c => k_is); (case k => k_is)
      · refine' PyI.defAt (name := "_law_common") (qual := "_law_common") (st := PyI.K01.top 38) KX G PyI.K01.bn_law_common ?a ?l ?c ?k; (case a => k_is); (case l => k_is); (case c => k_is); (case k => k_is)
      · refine' PyI.defAt (name := "_law_period") (qual := "_law_period") (st := PyI.K01.top 39) KX G PyI.K01.bn_law_period ?a ?l ?c ?k; (case a => k_is); (case l => k_is); (case c => k_is); (case k => k_is)
      · refine' PyI.defAt (name := "_law_bound") (qual := "_law_bound") (st := PyI.K01.top 40) KX G PyI.K01.bn_law_bound ?a ?l ?c ?k; (case a => k_is); (case l => k_is); (case c => k_is); (case k => k_is)
      · refine' PyI.defAt (name := "_law_set_of_flags") (qual := "_law_set_of_flags") (st := PyI.K01.top 41) KX G PyI.K01.bn_law_set_of_flags ?a ?l ?c ?k; (case a => k_is); (case l => k_is); (case c => k_is); (case k => k_is)
      · refine' PyI.defAt (name := "_law_set_text") (qual := "_law_set_text") (st := PyI.K01.top 42) KX G PyI.K01.bn_law_set_text ?a ?l ?c ?k; (case a => k_is); (case l => k_is); (case c => k_is); (case k => k_is)
      · refine' PyI.defAt (name := "law") (qual := "law") (st := PyI.K01.top 43) KX G PyI.K01.bn_law ?a ?l ?c ?k; (case a => k_is); (case l => k_is); (case c => k_is); (case k => k_is)
#print axioms PySem.Challenge.cw_sensekept_k01_numbers_sets_holds
