import PyProof.Rows.All
import Wide.All
import OpenK.AllK
import Wide.FinOn
import HandS.ForMost
import HandS.ForExc
import HandS.ForSpec
import HandS.Style
import HandS.IsInst
import HandS.StrMore
import HandS.StrSplit
import HandS.Flow
import HandS.CallSlots
import HandS.ReplaceLit
import HandS.More
import HandS.WrittenGet
import HandS.Translate
import HandS.Dict
import HandS.Iter
import HandS.ReplaceDef
import HandS.ReplaceList
import PySem.Challenge.RW_sensekept_k30_plain_there_and_back
set_option Elab.async false
set_option linter.all false
set_option maxRecDepth 100000
set_option maxHeartbeats 4000000
/-! A1: data values D, the small heap Mu, how they stand in the abstract heap. -/
namespace PyI
open PySem L2

inductive D where
  | non | bl (b : Bool) | int (i : Int) | str (s : Str)
  | tup (l : List D) | lst (l : List D) | ref (n : Nat)
  deriving Inhabited

/-- an object that may change -/
inductive MO where
  | lst (l : List D)
  | dead
  | ins (c : Nat) (fs : List (Str × D))
  | dk (kvs : List (Key × D))
  deriving Inhabited

abbrev Mu := List MO
abbrev Rho := List (Option D)

/-- the part of SqT, SqL that no heap changes -/
def TK (K : PySem.W.Frag) (a : Addr) (xs : List V) : Prop := SqT K (fun _ => none) a xs
def LK (K : PySem.W.Frag) (a : Addr) (xs : List V) : Prop := SqL K (fun _ => none) a xs
theorem TK.sq {K : PySem.W.Frag} {H : Hp} {a : Addr} {xs : List V} (h : TK K a xs) : SqT K H a xs := by
  rcases h with h | h
  · rcases h with h | ⟨o, h⟩ <;> cases h
  · exact .inr h
theorem LK.sq {K : PySem.W.Frag} {H : Hp} {a : Addr} {xs : List V} (h : LK K a xs) : SqL K H a xs := by
  rcases h with h | h
  · rcases h with h | ⟨o, h⟩ <;> cases h
  · exact .inr h
/-- our addresses: of the small heap's objects, by number; and what else is kept out of the data -/
structure AM where
  ix : List Addr
  ex : List Addr
def AM.out (M : AM) (a : Addr) : Prop := a ∉ M.ix ∧ a ∉ M.ex
abbrev AM.hide (M : AM) (p : Addr) : AM := { M with ex := p :: M.ex }
abbrev AM.add (M : AM) (p : Addr) : AM := { M with ix := M.ix ++ [p] }
abbrev AM.cut (M : AM) (n : Nat) : AM := { M with ix := M.ix.take n }

def TA' (K : PySem.W.Frag) (H : Hp) (M : AM) (a : Addr) (xs : List V) : Prop := (Rd H a (.tup xs) ∧ M.out a) ∨ TK K a xs
def LA' (K : PySem.W.Frag) (H : Hp) (M : AM) (a : Addr) (xs : List V) : Prop := (Rd H a (.lst xs) ∧ M.out a) ∨ LK K a xs
section
variable {K : PySem.W.Frag} {H H' H1 H2 : Hp} {M M' M1 M2 : AM} {a p : Addr} {xs : List V}
theorem TA'.sq (h : TA' K H M a xs) : SqT K H a xs := by
  rcases h with h | h
  · exact .inl h.1
  · exact h.sq
theorem LA'.sq (h : LA' K H M a xs) : SqL K H a xs := by
  rcases h with h | h
  · exact .inl h.1
  · exact h.sq
end

mutual
inductive Rep (K : PySem.W.Frag) (H : Hp) (M : AM) : V → D → Prop
  | non : Rep K H M .non .non
  | bl (b : Bool) : Rep K H M (.bl b) (.bl b)
  | int (i : Int) : Rep K H M (.int i) (.int i)
  | str (x : Str) : Rep K H M (.str x) (.str x)
  | tup {a : Addr} {xs : List V} {ds : List D} : TA' K H M a xs → Reps K H M xs ds → Rep K H M (.ref a) (.tup ds)
  | lst {a : Addr} {xs : List V} {ds : List D} : LA' K H M a xs → Reps K H M xs ds → Rep K H M (.ref a) (.lst ds)
  | ref {a : Addr} {n : Nat} : M.ix[n]? = some a → Rep K H M (.ref a) (.ref n)
inductive Reps (K : PySem.W.Frag) (H : Hp) (M : AM) : List V → List D → Prop
  | nil : Reps K H M [] []
  | cons {v : V} {vs : List V} {d : D} {ds : List D} : Rep K H M v d → Reps K H M vs ds → Reps K H M (v :: vs) (d :: ds)
end

/-- how heaps go on: what is tracked and no object of ours stays; our objects keep their places -/
structure Evo (M : AM) (H : Hp) (M' : AM) (H' : Hp) : Prop where
  pre : ∀ (n : Nat) (a : Addr), M.ix[n]? = some a → M'.ix[n]? = some a
  len : M.ix.length ≤ M'.ix.length
  ex : M'.ex = M.ex
  keep : ∀ (a : Addr) (o : HO), H a = some o → a ∉ M.ix → H' a = some o ∧ a ∉ M'.ix

/-- what lets a datum stand: the same for the data alone (addresses may leave ex, and new ones come in) -/
structure Stay (M : AM) (H : Hp) (M' : AM) (H' : Hp) : Prop where
  pre : ∀ (n : Nat) (a : Addr), M.ix[n]? = some a → M'.ix[n]? = some a
  keep : ∀ (a : Addr) (o : HO), H a = some o → M.out a → H' a = some o ∧ M'.out a

section
variable {K : PySem.W.Frag} {H H' H1 H2 : Hp} {M M' M1 M2 : AM} {a p : Addr} {xs : List V} {u o : HO}
theorem Evo.refl (M : AM) (H : Hp) : Evo M H M H := ⟨fun _ _ h => h, Nat.le_refl _, rfl, fun _ _ h n => ⟨h, n⟩⟩
theorem Evo.trans (a : Evo M H M1 H1) (b : Evo M1 H1 M2 H2) : Evo M H M2 H2 :=
  ⟨fun n x h => b.pre n x (a.pre n x h), Nat.le_trans a.len b.len, b.ex.trans a.ex, fun x o h n => b.keep x o (a.keep x o h n).1 (a.keep x o h n).2⟩
theorem Evo.stay (e : Evo M H M' H') : Stay M H M' H' := ⟨e.pre, fun a o h n => ⟨(e.keep a o h n.1).1, (e.keep a o h n.1).2, by rw [e.ex]; exact n.2⟩⟩
theorem Stay.trans (a : Stay M H M1 H1) (b : Stay M1 H1 M2 H2) : Stay M H M2 H2 :=
  ⟨fun n x h => b.pre n x (a.pre n x h), fun x o h n => b.keep x o (a.keep x o h n).1 (a.keep x o h n).2⟩
/-- a new address is kept out -/
theorem Stay.hide (h : H p = none) : Stay M H (M.hide p) H := ⟨fun _ _ q => q, fun a o e n => ⟨e, n.1, by
  show a ∉ p :: M.ex
  rw [List.mem_cons]
  rintro (q | q)
  · exact ne_of_none e h q
  · exact n.2 q⟩⟩
theorem Stay.unhide : Stay (M.hide p) H M H := ⟨fun _ _ q => q, fun a o e n => ⟨e, n.1, fun q => n.2 (List.mem_cons_of_mem _ q)⟩⟩
/-- what is kept out becomes ours -/
theorem Stay.take : Stay (M.hide p) H (M.add p) H := ⟨fun n a q => by
    show (M.ix ++ [p])[n]? = some a
    have z : n < M.ix.length := by
      rcases Nat.lt_or_ge n M.ix.length with z | z
      · exact z
      · rw [List.getElem?_eq_none z] at q; cases q
    rw [List.getElem?_append_left z]; exact q, fun a o e n => ⟨e, by
    show a ∉ M.ix ++ [p]
    rw [List.mem_append, List.mem_singleton]
    rintro (q | q)
    · exact n.1 q
    · exact n.2 (by rw [q]; exact List.mem_cons_self ..), fun q => n.2 (List.mem_cons_of_mem _ q)⟩⟩
/-- what is kept out changes -/
theorem Stay.mutEx (h : p ∈ M.ex) : Stay M H M (upd H p o) := ⟨fun _ _ q => q, fun a u e n => ⟨by rw [upd_ne (fun (q : a = p) => n.2 (by rw [q]; exact h))]; exact e, n⟩⟩
theorem Rd.stay (e : Stay M H M' H') (h : Rd H a u) (n : M.out a) : Rd H' a u ∧ M'.out a := by
  rcases h with h | ⟨o, h⟩
  · exact ⟨.inl (e.keep a _ h n).1, (e.keep a _ h n).2⟩
  · exact ⟨.inr ⟨o, (e.keep a _ h n).1⟩, (e.keep a _ h n).2⟩
theorem TA'.stay (e : Stay M H M' H') (h : TA' K H M a xs) : TA' K H' M' a xs := by
  rcases h with h | h
  · exact .inl (Rd.stay e h.1 h.2)
  · exact .inr h
theorem LA'.stay (e : Stay M H M' H') (h : LA' K H M a xs) : LA' K H' M' a xs := by
  rcases h with h | h
  · exact .inl (Rd.stay e h.1 h.2)
  · exact .inr h
end
mutual
theorem Rep.stay {K : PySem.W.Frag} {M M' : AM} {H H' : Hp} (e : Stay M H M' H') : ∀ {v : V} {d : D}, Rep K H M v d → Rep K H' M' v d
  | _, _, .non => .non
  | _, _, .bl b => .bl b
  | _, _, .int i => .int i
  | _, _, .str x => .str x
  | _, _, .tup h r => .tup (h.stay e) (Reps.stay e r)
  | _, _, .lst h r => .lst (h.stay e) (Reps.stay e r)
  | _, _, .ref h => .ref (e.pre _ _ h)
theorem Reps.stay {K : PySem.W.Frag} {M M' : AM} {H H' : Hp} (e : Stay M H M' H') : ∀ {vs : List V} {ds : List D}, Reps K H M vs ds → Reps K H' M' vs ds
  | _, _, .nil => .nil
  | _, _, .cons h r => .cons (Rep.stay e h) (Reps.stay e r)
end
theorem Rep.evo {K : PySem.W.Frag} {M M' : AM} {H H' : Hp} {v : V} {d : D} (e : Evo M H M' H') (h : Rep K H M v d) : Rep K H' M' v d := h.stay e.stay
theorem Reps.evo {K : PySem.W.Frag} {M M' : AM} {H H' : Hp} {vs : List V} {ds : List D} (e : Evo M H M' H') (h : Reps K H M vs ds) : Reps K H' M' vs ds := h.stay e.stay

/-! ### no reference from n on -/
mutual
def below (n : Nat) : D → Bool
  | .ref k => decide (k < n)
  | .tup l => belows n l
  | .lst l => belows n l
  | _ => true
def belows (n : Nat) : List D → Bool
  | [] => true
  | d :: ds => below n d && belows n ds
end
def belowMO (n : Nat) : MO → Bool
  | .lst l => belows n l
  | .dead => true
  | .ins _ fs => fs.all fun p => below n p.2
  | .dk kvs => kvs.all fun p => below n p.2

theorem AM.out.cut {M : AM} {a : Addr} (n : Nat) (h : M.out a) : (M.cut n).out a := ⟨fun q => h.1 (List.mem_of_mem_take q), h.2⟩
mutual
theorem Rep.cut {K : PySem.W.Frag} {M : AM} {H : Hp} (n : Nat) : ∀ {v : V} {d : D}, Rep K H M v d → below n d = true → Rep K H (M.cut n) v d
  | _, _, .non, _ => .non
  | _, _, .bl b, _ => .bl b
  | _, _, .int i, _ => .int i
  | _, _, .str x, _ => .str x
  | _, _, .tup (.inl h) r, q => .tup (.inl ⟨h.1, h.2.cut n⟩) (Reps.cut n r (by simpa only [below] using q))
  | _, _, .tup (.inr h) r, q => .tup (.inr h) (Reps.cut n r (by simpa only [below] using q))
  | _, _, .lst (.inl h) r, q => .lst (.inl ⟨h.1, h.2.cut n⟩) (Reps.cut n r (by simpa only [below] using q))
  | _, _, .lst (.inr h) r, q => .lst (.inr h) (Reps.cut n r (by simpa only [below] using q))
  | _, _, .ref (n := k) h, q => .ref (by
      have q' : k < n := by simpa only [below, decide_eq_true_eq] using q
      show (M.ix.take n)[k]? = _
      rw [List.getElem?_take_of_lt q']; exact h)
theorem Reps.cut {K : PySem.W.Frag} {M : AM} {H : Hp} (n : Nat) : ∀ {vs : List V} {ds : List D}, Reps K H M vs ds → belows n ds = true → Reps K H (M.cut n) vs ds
  | _, _, .nil, _ => .nil
  | _, _, .cons h r, q => by
    simp only [belows, Bool.and_eq_true] at q
    exact .cons (Rep.cut n h q.1) (Reps.cut n r q.2)
end

section
variable {K : PySem.W.Frag} {H H' : Hp} {M : AM}
theorem Reps.length : ∀ {vs : List V} {ds : List D}, Reps K H M vs ds → vs.length = ds.length
  | _, _, .nil => rfl
  | _, _, .cons _ r => congrArg (· + 1) (Reps.length r)
theorem Reps.get : ∀ {vs : List V} {ds : List D} {i : Nat} {d : D}, Reps K H M vs ds → ds[i]? = some d → ∃ v, vs[i]? = some v ∧ Rep K H M v d
  | _, _, 0, _, .cons h _, e => by simp at e; subst e; exact ⟨_, rfl, h⟩
  | _, _, i + 1, d, .cons _ r, e => by
    obtain ⟨v, h1, h2⟩ := Reps.get (i := i) (d := d) r (by simpa using e)
    exact ⟨v, by simpa using h1, h2⟩
theorem Reps.append : ∀ {vs ws : List V} {ds es : List D}, Reps K H M vs ds → Reps K H M ws es → Reps K H M (vs ++ ws) (ds ++ es)
  | _, _, _, _, .nil, s => s
  | _, _, _, _, .cons h r, s => .cons h (Reps.append r s)
theorem Reps.takeL : ∀ {vs : List V} {ds : List D} (n : Nat), Reps K H M vs ds → Reps K H M (vs.take n) (ds.take n)
  | _, _, 0, _ => .nil
  | _, _, _ + 1, .nil => .nil
  | _, _, n + 1, .cons h r => .cons h (Reps.takeL n r)
theorem Reps.dropL : ∀ {vs : List V} {ds : List D} (n : Nat), Reps K H M vs ds → Reps K H M (vs.drop n) (ds.drop n)
  | _, _, 0, r => r
  | _, _, _ + 1, .nil => .nil
  | _, _, n + 1, .cons _ r => Reps.dropL n r
theorem Reps.set {v : V} {d : D} (q : Rep K H M v d) : ∀ {vs : List V} {ds : List D} (n : Nat), Reps K H M vs ds → Reps K H M (vs.set n v) (ds.set n d)
  | _, _, _, .nil => .nil
  | _, _, 0, .cons _ r => .cons q r
  | _, _, n + 1, .cons h r => .cons h (Reps.set q n r)
theorem Reps.rev : ∀ {vs : List V} {ds : List D}, Reps K H M vs ds → Reps K H M vs.reverse ds.reverse
  | _, _, .nil => .nil
  | _, _, .cons h r => by rw [List.reverse_cons, List.reverse_cons]; exact (Reps.rev r).append (.cons h .nil)
theorem Reps.one {v : V} {d : D} (h : Rep K H M v d) : Reps K H M [v] [d] := .cons h .nil
theorem Reps.one_inv {vs : List V} {d : D} (h : Reps K H M vs [d]) : ∃ v, vs = [v] ∧ Rep K H M v d := by
  cases h with
  | cons h r => cases r; exact ⟨_, rfl, h⟩
end

/-! ### the small heap in the abstract one -/
def FRep (K : PySem.W.Frag) (H : Hp) (M : AM) : List (Str × V) → List (Str × D) → Prop := Paired fun p q => p.1 = q.1 ∧ Rep K H M p.2 q.2
def KRep (K : PySem.W.Frag) (H : Hp) (M : AM) : List (Key × V) → List (Key × D) → Prop := Paired fun p q => p.1 = q.1 ∧ Rep K H M p.2 q.2
theorem paired_imp {α β : Type} {R S : α → β → Prop} (h : ∀ x y, R x y → S x y) : ∀ {xs : List α} {ys : List β}, Paired R xs ys → Paired S xs ys
  | _, _, .nil => .nil
  | _, _, .cons a r => .cons (h _ _ a) (paired_imp h r)

/-- the addresses of the classes, by number -/
structure CTab where
  cls : Nat → Addr

def MRep (K : PySem.W.Frag) (ct : CTab) (H : Hp) (M : AM) (a : Addr) : MO → Prop
  | .lst ds => ∃ xs, H a = some (.lst xs) ∧ Reps K H M xs ds
  | .dead => ∃ o, H a = some o
  | .ins c fs => ∃ dx fvs, H a = some (.ins (ct.cls c) dx fvs) ∧ FRep K H M fvs fs
  | .dk kvs => ∃ ks, H a = some (.dK ks) ∧ KRep K H M ks kvs

structure RelH (K : PySem.W.Frag) (ct : CTab) (H : Hp) (μ : Mu) (M : AM) : Prop where
  len : M.ix.length = μ.length
  nd : M.ix.Nodup
  at_ : ∀ (n : Nat) (mo : MO), μ[n]? = some mo → ∃ a, M.ix[n]? = some a ∧ MRep K ct H M a mo
  exs : ∀ a ∈ M.ex, (∃ o, H a = some o) ∧ a ∉ M.ix

section
variable {K : PySem.W.Frag} {ct : CTab} {H H' : Hp} {M M' : AM} {a p : Addr} {mo : MO} {μ : Mu} {o : HO}
theorem MRep.is (h : MRep K ct H M a mo) : ∃ o, H a = some o := by
  cases mo with
  | lst ds => obtain ⟨xs, h, _⟩ := h; exact ⟨_, h⟩
  | dead => exact h
  | ins c fs => obtain ⟨dx, fvs, h, _⟩ := h; exact ⟨_, h⟩
  | dk kvs => obtain ⟨ks, h, _⟩ := h; exact ⟨_, h⟩
theorem RelH.mem (R : RelH K ct H μ M) {a : Addr} (h : a ∈ M.ix) : ∃ o, H a = some o := by
  obtain ⟨n, hn, e⟩ := List.getElem_of_mem h
  have h1 : n < μ.length := R.len ▸ hn
  obtain ⟨a', e', r⟩ := R.at_ n μ[n] (List.getElem?_eq_getElem h1)
  rw [List.getElem?_eq_getElem hn, e] at e'
  cases e'
  exact r.is
theorem RelH.fresh (R : RelH K ct H μ M) {a : Addr} (h : H a = none) : M.out a := by
  refine ⟨fun q => ?_, fun q => ?_⟩
  · obtain ⟨o, e⟩ := R.mem q
    rw [h] at e; cases e
  · obtain ⟨⟨o, e⟩, _⟩ := R.exs a q
    rw [h] at e; cases e

/-- an object is made that is none of ours -/
theorem Evo.new (h : H p = none) : Evo M H M (upd H p o) :=
  ⟨fun _ _ q => q, Nat.le_refl _, rfl, fun a u e n => ⟨by rw [upd_ne (ne_of_none e h)]; exact e, n⟩⟩
theorem ix_add {l : List Addr} {n : Nat} {a p : Addr} (q : l[n]? = some a) : (l ++ [p])[n]? = some a := by
  have z : n < l.length := by
    rcases Nat.lt_or_ge n l.length with z | z
    · exact z
    · rw [List.getElem?_eq_none z] at q; cases q
  rw [List.getElem?_append_left z]; exact q
/-- an object is made that is ours -/
theorem Evo.own (h : H p = none) : Evo M H (M.add p) (upd H p o) :=
  ⟨fun n a q => ix_add q,
    by show _ ≤ (M.ix ++ [p]).length; simp, rfl, fun a u e n => ⟨by rw [upd_ne (ne_of_none e h)]; exact e, by
      show a ∉ M.ix ++ [p]
      rw [List.mem_append, List.mem_singleton]
      rintro (q | q)
      · exact n q
      · exact ne_of_none e h q⟩⟩
/-- one of ours changes -/
theorem Evo.mut (h : p ∈ M.ix) : Evo M H M (upd H p o) :=
  ⟨fun _ _ q => q, Nat.le_refl _, rfl, fun a u e n => ⟨by rw [upd_ne (fun (q : a = p) => n (by rw [q]; exact h))]; exact e, n⟩⟩

theorem MRep.stay (e : Stay M H M' H') (ha : ∀ o, H a = some o → H' a = some o) (h : MRep K ct H M a mo) : MRep K ct H' M' a mo := by
  cases mo with
  | lst ds => obtain ⟨xs, h, r⟩ := h; exact ⟨xs, ha _ h, r.stay e⟩
  | dead => obtain ⟨o, h⟩ := h; exact ⟨o, ha _ h⟩
  | ins c fs => obtain ⟨dx, fvs, h, r⟩ := h; exact ⟨dx, fvs, ha _ h, paired_imp (fun _ _ q => ⟨q.1, q.2.stay e⟩) r⟩
  | dk kvs => obtain ⟨ks, h, r⟩ := h; exact ⟨ks, ha _ h, paired_imp (fun _ _ q => ⟨q.1, q.2.stay e⟩) r⟩

theorem RelH.new (R : RelH K ct H μ M) (h : H p = none) : RelH K ct (upd H p o) μ M :=
  ⟨R.len, R.nd, fun n mo q => by
    obtain ⟨a, e, r⟩ := R.at_ n mo q
    exact ⟨a, e, r.stay (Evo.new h).stay fun u z => by rw [upd_ne (ne_of_none z h)]; exact z⟩, fun a q => by
    obtain ⟨⟨u, z⟩, y⟩ := R.exs a q
    exact ⟨⟨u, by rw [upd_ne (ne_of_none z h)]; exact z⟩, y⟩⟩
/-- a new object is kept out of the data -/
theorem RelH.hide (R : RelH K ct H μ M) (h : H p = none) : RelH K ct (upd H p o) μ (M.hide p) :=
  ⟨R.len, R.nd, fun n mo q => by
    obtain ⟨a, e, r⟩ := R.at_ n mo q
    exact ⟨a, e, r.stay ((Stay.hide h).trans (Evo.new h).stay) fun u z => by rw [upd_ne (ne_of_none z h)]; exact z⟩, fun a q => by
    rcases List.mem_cons.mp q with z | q
    · subst z; exact ⟨⟨o, upd_same⟩, (R.fresh h).1⟩
    · obtain ⟨⟨u, z⟩, y⟩ := R.exs a q
      exact ⟨⟨u, by rw [upd_ne (ne_of_none z h)]; exact z⟩, y⟩⟩
theorem RelH.unhide (R : RelH K ct H μ (M.hide p)) : RelH K ct H μ M :=
  ⟨R.len, R.nd, fun n mo q => by
    obtain ⟨a, e, r⟩ := R.at_ n mo q
    exact ⟨a, e, r.stay Stay.unhide fun _ z => z⟩, fun a q => R.exs a (List.mem_cons_of_mem _ q)⟩
/-- what is kept out changes -/
theorem RelH.mutEx (R : RelH K ct H μ M) (h : p ∈ M.ex) : RelH K ct (upd H p o) μ M :=
  ⟨R.len, R.nd, fun n mo q => by
    obtain ⟨a, e, r⟩ := R.at_ n mo q
    refine ⟨a, e, r.stay (Stay.mutEx h) fun u z => ?_⟩
    rw [upd_ne (fun (x : a = p) => (R.exs p h).2 (by rw [← x]; exact List.mem_of_getElem? e))]; exact z, fun a q => by
    obtain ⟨⟨u, z⟩, y⟩ := R.exs a q
    by_cases x : a = p
    · subst x; exact ⟨⟨o, upd_same⟩, y⟩
    · exact ⟨⟨u, by rw [upd_ne x]; exact z⟩, y⟩⟩
/-- what was kept out becomes ours -/
theorem RelH.takeIn (R : RelH K ct H μ (M.hide p)) (hn : p ∉ M.ex) (hm : MRep K ct H (M.add p) p mo) : RelH K ct H (μ ++ [mo]) (M.add p) := by
  have hp := (R.exs p (List.mem_cons_self ..)).2
  refine ⟨?_, ?_, fun n mo' q => ?_, fun a q => ?_⟩
  · show (M.ix ++ [p]).length = _
    have := R.len
    simp only [List.length_append, List.length_singleton]
    exact congrArg (· + 1) this
  · show (M.ix ++ [p]).Nodup
    rw [List.nodup_append]
    refine ⟨R.nd, by simp, fun a ha b hb => ?_⟩
    rw [List.mem_singleton] at hb
    rintro rfl
    exact hp (hb ▸ ha)
  · rcases Nat.lt_or_ge n μ.length with z | z
    · rw [List.getElem?_append_left z] at q
      obtain ⟨a, e, r⟩ := R.at_ n mo' q
      exact ⟨a, ix_add e, r.stay Stay.take fun _ z => z⟩
    · rw [List.getElem?_append_right z] at q
      have z1 : n - μ.length = 0 := by
        rcases Nat.eq_zero_or_pos (n - μ.length) with y | y
        · exact y
        · rw [List.getElem?_eq_none (by rw [List.length_singleton]; exact y)] at q; cases q
      rw [z1] at q
      simp at q
      subst q
      refine ⟨p, ?_, hm⟩
      show (M.ix ++ [p])[n]? = some p
      have hl : M.ix.length = μ.length := R.len
      rw [List.getElem?_append_right (by rw [hl]; exact z), hl, z1]
      rfl
  · obtain ⟨x, y⟩ := R.exs a (List.mem_cons_of_mem _ q)
    refine ⟨x, ?_⟩
    show a ∉ M.ix ++ [p]
    rw [List.mem_append, List.mem_singleton]
    rintro (z | z)
    · exact y z
    · exact hn (z ▸ q)
theorem RelH.mut (R : RelH K ct H μ M) {n : Nat} (hp : M.ix[n]? = some p) (hm : MRep K ct (upd H p o) M p mo) : RelH K ct (upd H p o) (μ.set n mo) M := by
  have hpm : p ∈ M.ix := List.mem_of_getElem? hp
  refine ⟨by rw [List.length_set]; exact R.len, R.nd, fun k mo' q => ?_, fun a q => ?_⟩
  · rw [List.getElem?_set] at q
    by_cases e : n = k
    · subst e
      rw [if_pos rfl] at q
      split at q
      · cases q; exact ⟨p, hp, hm⟩
      · cases q
    · rw [if_neg e] at q
      obtain ⟨a, e', r⟩ := R.at_ k mo' q
      refine ⟨a, e', r.stay (Evo.mut hpm).stay fun u z => ?_⟩
      have ne : a ≠ p := fun x => e ((List.getElem?_inj (by
        rcases Nat.lt_or_ge n M.ix.length with y | y
        · exact y
        · rw [List.getElem?_eq_none y] at hp; cases hp) R.nd).mp (by rw [hp, e', x]))
      rw [upd_ne ne]; exact z
  · obtain ⟨⟨u, z⟩, y⟩ := R.exs a q
    exact ⟨⟨u, by rw [upd_ne (fun (x : a = p) => y (by rw [x]; exact hpm))]; exact z⟩, y⟩
theorem RelH.cut (R : RelH K ct H μ M) (n : Nat) (hb : (μ.take n).all (belowMO n) = true) : RelH K ct H (μ.take n) (M.cut n) := by
  refine ⟨by show (M.ix.take n).length = _; rw [List.length_take, List.length_take, R.len], R.nd.sublist (List.take_sublist _ _), fun k mo q => ?_, fun a q => ?_⟩
  · have hk : k < n := by
      rcases Nat.lt_or_ge k n with y | y
      · exact y
      · rw [List.getElem?_eq_none (by rw [List.length_take]; omega)] at q; cases q
    have hb' : belowMO n mo = true := (List.all_eq_true.mp hb) mo (List.mem_of_getElem? q)
    rw [List.getElem?_take_of_lt hk] at q
    obtain ⟨a, e, r⟩ := R.at_ k mo q
    refine ⟨a, by show (M.ix.take n)[k]? = _; rw [List.getElem?_take_of_lt hk]; exact e, ?_⟩
    cases mo with
    | lst ds => obtain ⟨xs, h, r⟩ := r; exact ⟨xs, h, r.cut n hb'⟩
    | dead => exact r
    | ins c fs =>
      obtain ⟨dx, fvs, h, r⟩ := r
      refine ⟨dx, fvs, h, ?_⟩
      have hb2 : ∀ p ∈ fs, below n p.2 = true := by simpa [belowMO, List.all_eq_true] using hb'
      clear hb' q h e
      induction r with
      | nil => exact .nil
      | cons a r ih => exact .cons ⟨a.1, a.2.cut n (hb2 _ (List.mem_cons_self ..))⟩ (ih fun p hp => hb2 p (List.mem_cons_of_mem _ hp))
    | dk kvs =>
      obtain ⟨ks, h, r⟩ := r
      refine ⟨ks, h, ?_⟩
      have hb2 : ∀ p ∈ kvs, below n p.2 = true := by simpa [belowMO, List.all_eq_true] using hb'
      clear hb' q h e
      induction r with
      | nil => exact .nil
      | cons a r ih => exact .cons ⟨a.1, a.2.cut n (hb2 _ (List.mem_cons_self ..))⟩ (ih fun p hp => hb2 p (List.mem_cons_of_mem _ hp))
  · obtain ⟨x, y⟩ := R.exs a q
    exact ⟨x, fun z => y (List.mem_of_mem_take z)⟩
/-- evolution seen from the beginning, when what was made is cut off -/
theorem Evo.cut (e : Evo M H M' H') : Evo M H (M'.cut M.ix.length) H' :=
  ⟨fun n a h => by
      have z : n < M.ix.length := by
        rcases Nat.lt_or_ge n M.ix.length with z | z
        · exact z
        · rw [List.getElem?_eq_none z] at h; cases h
      show (M'.ix.take M.ix.length)[n]? = some a
      rw [List.getElem?_take_of_lt z]; exact e.pre n a h,
    by show _ ≤ (M'.ix.take M.ix.length).length; rw [List.length_take]; exact Nat.le_min.mpr ⟨Nat.le_refl _, e.len⟩, e.ex,
    fun a o h n => ⟨(e.keep a o h n).1, fun q => (e.keep a o h n).2 (List.mem_of_mem_take q)⟩⟩
/-- with one address kept out -/
theorem Evo.hide (e : Evo M H M' H') : Evo (M.hide p) H (M'.hide p) H' := ⟨e.pre, e.len, congrArg (p :: ·) e.ex, e.keep⟩
theorem Evo.unhide (e : Evo (M.hide p) H (M'.hide p) H') : Evo M H M' H' := ⟨e.pre, e.len, (List.cons.inj e.ex).2, e.keep⟩
end

/-- slots -/
structure RelE (K : PySem.W.Frag) (H : Hp) (M : AM) (σ : St) (ρ : Rho) : Prop where
  len : σ.length = ρ.length
  at_ : ∀ (i : Nat) (d : D), ρ[i]? = some (some d) → ∃ v, σ[i]? = some (some v) ∧ Rep K H M v d
section
variable {K : PySem.W.Frag} {H H' : Hp} {M M' : AM} {σ : St} {ρ : Rho}
theorem RelE.stay (e : Stay M H M' H') (R : RelE K H M σ ρ) : RelE K H' M' σ ρ :=
  ⟨R.len, fun i d h => by obtain ⟨v, h1, h2⟩ := R.at_ i d h; exact ⟨v, h1, h2.stay e⟩⟩
theorem RelE.evo (e : Evo M H M' H') (R : RelE K H M σ ρ) : RelE K H' M' σ ρ := R.stay e.stay
theorem RelE.set (R : RelE K H M σ ρ) {v : V} {d : D} (r : Rep K H M v d) (i : Nat) : RelE K H M (σ.set i (some v)) (ρ.set i (some d)) := by
  refine ⟨by rw [List.length_set, List.length_set]; exact R.len, fun k d' h => ?_⟩
  rw [List.getElem?_set] at h ⊢
  by_cases e : i = k
  · rw [if_pos e] at h ⊢
    by_cases z : i < ρ.length
    · rw [if_pos z] at h; cases h
      rw [if_pos (by rw [R.len]; exact z)]
      exact ⟨v, rfl, r⟩
    · rw [if_neg z] at h; cases h
  · rw [if_neg e] at h ⊢
    exact R.at_ k d' h
/-- a slot is emptied -/
theorem RelE.clear (R : RelE K H M σ ρ) (i : Nat) (x : Option V) : RelE K H M (σ.set i x) (ρ.set i none) := by
  refine ⟨by rw [List.length_set, List.length_set]; exact R.len, fun k d h => ?_⟩
  rw [List.getElem?_set] at h ⊢
  by_cases e : i = k
  · rw [if_pos e] at h
    split at h <;> simp at h
  · rw [if_neg e] at h ⊢
    exact R.at_ k d h
def wipeR (ρ : Rho) : List Nat → Rho
  | [] => ρ
  | i :: is => (wipeR ρ is).set i none
theorem RelE.wipe (R : RelE K H M σ ρ) : ∀ is : List Nat, RelE K H M (L2.wipe σ is) (wipeR ρ is)
  | [] => R
  | i :: is => (R.wipe is).clear i none
end
theorem wipe_set {σ : St} {i : Nat} {v : Option V} : ∀ {vs : List Nat}, i ∈ vs → L2.wipe (σ.set i v) vs = L2.wipe σ vs := by
  intro vs h
  apply List.ext_getElem?
  intro k
  by_cases hk : k ∈ vs
  · have w : ∀ (τ : St) (vs : List Nat), k ∈ vs → k < τ.length → (L2.wipe τ vs)[k]? = some none := by
      intro τ vs
      induction vs with
      | nil => intro h; cases h
      | cons j js ih =>
        intro hk hl
        unfold L2.wipe
        rw [List.getElem?_set]
        by_cases e : j = k
        · rw [if_pos e, if_pos (by rw [wipe_length, e]; exact hl)]
        · rw [if_neg e]
          rcases List.mem_cons.mp hk with z | z
          · exact absurd z.symm e
          · exact ih z hl
    rcases Nat.lt_or_ge k σ.length with z | z
    · rw [w σ vs hk z, w _ vs hk (by rw [List.length_set]; exact z)]
    · rw [List.getElem?_eq_none (by rw [wipe_length, List.length_set]; exact z), List.getElem?_eq_none (by rw [wipe_length]; exact z)]
  · rw [L2.wipe_out hk, L2.wipe_out hk, List.getElem?_set, if_neg (fun (e : i = k) => hk (by rw [← e]; exact h))]
end PyI
/-! A2: the resolved syntax and its interpreter. -/
namespace PyI
open PySem L2

inductive Bop where
  | add | sub | mul | fdiv | mod | pow | shl | shr | band | bor | bxor
  deriving DecidableEq
inductive Cop where
  | eq | ne | lt | le | gt | ge | is_ | isnot | in_ | notin
  deriving DecidableEq
inductive Ty where
  | str | int | bool | tuple | list
  deriving DecidableEq
inductive Bif where
  | len | int | str | tuple | list | sorted | min | max | sum | any | all | abs | ord | bool
  deriving DecidableEq
inductive Met where
  | append | join | find | isascii | isprintable | split | endswith | startswith | extend | pop | index | isdigit | isalpha | islower
  deriving DecidableEq
inductive Tg where
  | nm (i : Nat)
  | tp (l : List Nat)
  deriving DecidableEq

mutual
inductive E where
  | var (i : Nat)
  | cst (d : D)
  | glob (g : Nat)
  | bin (o : Bop) (a b : E)
  | neg (a : E)
  | notv (t : T)
  | and (a b : E)
  | or (a b : E)
  | cmp (o : Cop) (a b : E)
  | chn (o o' : Cop) (a b c : E)
  | ite (t : T) (a b : E)
  | call (f : Nat) (as : Es)
  | bif (b : Bif) (as : Es)
  | isi (a : E) (t : Ty)
  | met (m : Met) (o : E) (as : Es)
  | tr37 (o : E)
  | idx (a b : E)
  | slc (a : E) (lo hi : O)
  | tup (es : Es)
  | lst (es : Es)
  | comp (own : List Nat) (tg : Tg) (it : IT) (c : T) (e : E)
  | gdict (g : Nat) (k : E)            -- CONST[k], a dict of the module with text keys
  | gin (neg : Bool) (g : Nat) (k : E)  -- k in CONST
inductive Es where
  | nil
  | cons (e : E) (es : Es)
inductive O where
  | none
  | some (e : E)
inductive T where
  | yes
  | val (e : E)
  | not (t : T)
  | and (t u : T)
  | or (t u : T)
inductive IT where
  | seq (e : E)
  | rng1 (a : E)
  | rng2 (a b : E)
end
/-- e.replace(y, z).replace(..).. -/
inductive R where
  | base (e : E)
  | repl (r : R) (y z : Str)
mutual
inductive S where
  | setR (i : Nat) (r : R)
  | retR (pre : Str) (r : R) (post : Str)      -- return 'pre' + r + 'post'
  | set (tg : Tg) (e : E)
  | new (i : Nat) (e : E)
  | setIx (o i v : E)
  | aug (i : Nat) (o : Bop) (e : E)
  | expr (e : E)
  | ifs (t : T) (a b : B)
  | for_ (tg : Tg) (it : IT) (b : B)
  | whl (t : T) (b : B)
  | ret (e : E)
  | retN
  | pass
  | brk
  | cnt
  | bad                                   -- nothing is known of it
inductive B where
  | nil
  | cons (s : S) (b : B)
end

inductive Res (α : Type) where
  | ok (a : α) (μ : Mu)
  | err (c : Nat) (fs : List D) (μ : Mu)
  | stuck

def Res.bind {α β : Type} (r : Res α) (f : α → Mu → Res β) : Res β := match r with
  | .ok a μ => f a μ
  | .err c fs μ => .err c fs μ
  | .stuck => .stuck
def needs {α : Type} (p : Prop) [Decidable p] (r : Res α) : Res α := if p then r else .stuck
theorem needs_pos {α : Type} {p : Prop} [Decidable p] {r : Res α} (h : p) : needs p r = r := if_pos h

structure G where
  call : Nat → List D → Mu → Res D
  con : Nat → Option D
  dic : Nat → List (Str × D)
  wf : Nat

/-! ### equality -/
mutual
def D.beq : D → D → Bool
  | .non, .non => true
  | .bl a, .bl b => a == b
  | .int a, .int b => a == b
  | .str a, .str b => a == b
  | .ref a, .ref b => a == b
  | .tup a, .tup b => D.beqs a b
  | .lst a, .lst b => D.beqs a b
  | _, _ => false
def D.beqs : List D → List D → Bool
  | [], [] => true
  | x :: xs, y :: ys => D.beq x y && D.beqs xs ys
  | _, _ => false
end
mutual
/-- Python's == on data -/
def eqD : D → D → Bool
  | .non, .non => true
  | .bl a, .bl b => a == b
  | .bl a, .int j => (if a then 1 else 0) == j
  | .int i, .bl b => i == (if b then 1 else 0)
  | .int i, .int j => i == j
  | .str x, .str y => x == y
  | .lst xs, .lst ys => eqDs xs ys
  | .tup xs, .tup ys => eqDs xs ys
  | _, _ => false
def eqDs : List D → List D → Bool
  | [], [] => true
  | x :: xs, y :: ys => eqD x y && eqDs xs ys
  | _, _ => false
end
mutual
/-- what == is told of: no references, texts of signs, at most n deep -/
def eqOk : Nat → D → Bool
  | _, .non | _, .bl _ | _, .int _ => true
  | _, .str s => s.cps.all (· < 0x110000)
  | 0, .tup _ | 0, .lst _ => false
  | n + 1, .tup l => eqOks n l
  | n + 1, .lst l => eqOks n l
  | _, .ref _ => false
def eqOks : Nat → List D → Bool
  | _, [] => true
  | n, d :: ds => eqOk n d && eqOks n ds
end
/-- a list object's content as a datum -/
def deref (μ : Mu) : D → D
  | .ref n => match μ[n]? with
    | some (.lst l) => .lst l
    | _ => .ref n
  | d => d
def flatD : D → Bool
  | .non | .bl _ | .int _ | .str _ => true
  | _ => false
/-- the items of a list or a tuple -/
def seqD (μ : Mu) : D → Option (List D)
  | .tup l => some l
  | .lst l => some l
  | .ref n => match μ[n]? with
    | some (.lst l) => some l
    | _ => none
  | _ => none
def truD (μ : Mu) : D → Mu → Res Bool
  | .non, ν => .ok false ν
  | .bl b, ν => .ok b ν
  | .int i, ν => .ok (i != 0) ν
  | .str s, ν => needs (s.length ≤ 16777216) (.ok (s.length != 0) ν)
  | .tup l, ν => .ok (!l.isEmpty) ν
  | .lst l, ν => .ok (!l.isEmpty) ν
  | .ref n, ν => match μ[n]? with
    | some (.lst l) => .ok (!l.isEmpty) ν
    | _ => .stuck

/-! ### operators -/
abbrev lim64 (i : Int) : Prop := -(2 ^ 64) < i ∧ i < 2 ^ 64
def binD (o : Bop) (x y : D) (μ : Mu) : Res D := match o, x, y with
  | .add, .int i, .int j => .ok (.int (i + j)) μ
  | .sub, .int i, .int j => .ok (.int (i - j)) μ
  | .mul, .int i, .int j => needs (lim64 i ∨ lim64 j) (.ok (.int (i * j)) μ)
  | .fdiv, .int i, .int j => needs (0 < j ∧ j < 1073741824) (.ok (.int (i / j)) μ)
  | .mod, .int i, .int j => needs (0 < j) (.ok (.int (i % j)) μ)
  | .pow, .int i, .int j => needs (0 ≤ j ∧ j ≤ 1000000 ∧ i.natAbs < 2 ^ 64) (.ok (.int (i ^ j.toNat)) μ)
  | .shl, .int i, .int j => needs (0 ≤ j ∧ j ≤ 1000000 ∧ i.natAbs < 2 ^ 64) (.ok (.int (i * 2 ^ j.toNat)) μ)
  | .shr, .int i, .int j => needs (0 ≤ j) (.ok (.int (i / 2 ^ j.toNat)) μ)
  | .band, .int i, .int j => .ok (.int (Builtin.bitAnd i j)) μ
  | .bor, .int i, .int j => .ok (.int (Builtin.bitOr i j)) μ
  | .bxor, .int i, .int j => .ok (.int (Builtin.bitXor i j)) μ
  | .add, .str i, .str j => needs (i.length + j.length ≤ 16777216) (.ok (.str (i ++ j)) μ)
  | _, _, _ => .stuck
def ltS (i j : Str) : Bool := decide (i.cps.toList < j.cps.toList)
def cmpD (o : Cop) (x y : D) (μ : Mu) : Res Bool := match o with
  | .eq => let x := deref μ x; let y := deref μ y; needs (eqOk 64 x = true ∧ eqOk 64 y = true) (.ok (eqD x y) μ)
  | .ne => let x := deref μ x; let y := deref μ y; needs (eqOk 64 x = true ∧ eqOk 64 y = true) (.ok (!eqD x y) μ)
  | .lt => match x, y with
    | .int i, .int j => .ok (decide (i < j)) μ
    | .str i, .str j => .ok (ltS i j) μ
    | _, _ => .stuck
  | .le => match x, y with
    | .int i, .int j => .ok (decide (i ≤ j)) μ
    | .str i, .str j => .ok (!ltS j i) μ
    | _, _ => .stuck
  | .gt => match x, y with
    | .int i, .int j => .ok (decide (j < i)) μ
    | .str i, .str j => .ok (ltS j i) μ
    | _, _ => .stuck
  | .ge => match x, y with
    | .int i, .int j => .ok (decide (j ≤ i)) μ
    | .str i, .str j => .ok (!ltS i j) μ
    | _, _ => .stuck
  | .is_ => match x, y with
    | .non, .non => .ok true μ
    | _, .non => .ok false μ
    | .bl a, .bl b => .ok (a == b) μ
    | _, .bl _ => .ok false μ
    | _, _ => .stuck
  | .isnot => match x, y with
    | .non, .non => .ok false μ
    | _, .non => .ok true μ
    | .bl a, .bl b => .ok (!(a == b)) μ
    | _, .bl _ => .ok true μ
    | _, _ => .stuck
  | .in_ => match x, y with
    | .str i, .str j => .ok (!(Builtin.Str.occurrences j i 0 j.length 1).isEmpty) μ
    | x, y => match seqD μ y with
      | some l => needs (flatD x = true ∧ l.all flatD = true) (.ok (l.any fun y => eqD y x) μ)
      | none => .stuck
  | .notin => match x, y with
    | .str i, .str j => .ok (!(!(Builtin.Str.occurrences j i 0 j.length 1).isEmpty)) μ
    | x, y => match seqD μ y with
      | some l => needs (flatD x = true ∧ l.all flatD = true) (.ok (!(l.any fun y => eqD y x)) μ)
      | none => .stuck
def isiD (x : D) (t : Ty) (μ : Mu) : Res D := match x with
  | .non => .ok (.bl false) μ
  | .bl _ => .ok (.bl (t == .bool || t == .int)) μ
  | .int _ => .ok (.bl (t == .int)) μ
  | .str _ => .ok (.bl (t == .str)) μ
  | .tup _ => .ok (.bl (t == .tuple)) μ
  | .lst _ => .ok (.bl (t == .list)) μ
  | .ref n => match μ[n]? with
    | some (.lst _) => .ok (.bl (t == .list)) μ
    | _ => .stuck
def strsOf : List D → Option (List Str)
  | [] => some []
  | .str s :: ds => (strsOf ds).map (s :: ·)
  | _ => none
def intsOf : List D → Option (List Int)
  | [] => some []
  | .int s :: ds => (intsOf ds).map (s :: ·)
  | _ => none
def bifD (b : Bif) (ds : List D) (μ : Mu) : Res D := match b, ds with
  | .len, [.str s] => needs (s.length ≤ 16777216) (.ok (.int s.length) μ)
  | .len, [d] => match seqD μ d with
    | some l => .ok (.int l.length) μ
    | none => .stuck
  | .int, [.int i] => .ok (.int i) μ
  | .int, [.bl k] => .ok (.int (if k then 1 else 0)) μ
  | .int, [.str s] => match PySem.intText? s with
    | some n => needs (s.length ≤ 640) (.ok (.int n) μ)
    | none => .stuck
  | .str, [.int i] => needs (i.natAbs.log2 < 1920) (.ok (.str (toString i)) μ)
  | .abs, [.int i] => .ok (.int (if i < 0 then -i else i)) μ
  | .max, [.int i, .int j] => .ok (.int (if j > i then j else i)) μ
  | .min, [.int i, .int j] => .ok (.int (if j < i then j else i)) μ
  | .tuple, [.tup l] => .ok (.tup l) μ
  | .tuple, [d] => match seqD μ d with
    | some l => .ok (.tup l) μ
    | none => .stuck
  | .list, [d] => match seqD μ d with
    | some l => .ok (.lst l) μ
    | none => .stuck
  | .ord, [.str s] => needs (s.length = 1) (.ok (.int (s.cps.getD 0 0 : Nat)) μ)
  | _, _ => .stuck
def metD (m : Met) (o : D) (ds : List D) (μ : Mu) : Res D := match m, o, ds with
  | .append, .ref n, [d] => match μ[n]? with
    | some (.lst l) => needs (l.length < 16777216) (.ok .non (μ.set n (.lst (l ++ [d]))))
    | _ => .stuck
  | .join, .str a, [d] => match (seqD μ d).bind strsOf with
    | some ys => needs ((ys.map (·.length)).sum + ys.length * a.length ≤ 16777216) (.ok (.str (Txt.join a ys)) μ)
    | none => .stuck
  | .find, .str a, [.str b, .int i] => .ok (.int (Txt.find3 a b i)) μ
  | .find, .str a, [.str b] => .ok (.int (Txt.find a b)) μ
  | .isascii, .str a, [] => .ok (.bl (Txt.isascii a)) μ
  | .isprintable, .str a, [] => .ok (.bl (Txt.isprintable a)) μ
  | .isdigit, .str a, [] => .ok (.bl (Txt.isdigit a)) μ
  | .isalpha, .str a, [] => .ok (.bl (Txt.isalpha a)) μ
  | .islower, .str a, [] => .ok (.bl (Txt.islower a)) μ
  | .startswith, .str a, [.str b] => .ok (.bl (Txt.startswith a b)) μ
  | .endswith, .str a, [.str b] => .ok (.bl (Txt.endswith a b)) μ
  | .split, .str a, [.str b] => needs (¬ b.length = 0 ∧ a.length + 2 ≤ 16777216) (.ok (.lst ((Txt.split a b).map D.str)) μ)
  | _, _, _ => .stuck
/-- the receiver is of the method's type -/
def tyD (m : Met) (o : D) (μ : Mu) : Bool := match m, o with
  | .append, .ref n => (match μ[n]? with
    | some (.lst _) => true
    | _ => false)
  | .extend, _ | .pop, _ | .append, _ => false
  | _, .str _ => true
  | _, _ => false
def replD (o : D) (y z : Str) (μ : Mu) : Res D := match o with
  | .str x => needs (x.length + (x.length + 1) * z.length ≤ 16777216) (.ok (.str (Txt.replace x y z)) μ)
  | _ => .stuck
def tr37S (x : Str) : Str := ⟨(x.cps.toList.filter (· != 37)).toArray⟩
def tr37D (o : D) (μ : Mu) : Res D := match o with
  | .str x => needs (x.length ≤ 1000000 ∧ x.cps.all (· < 128) = true) (.ok (.str (tr37S x)) μ)
  | _ => .stuck
def idxD (o i : D) (μ : Mu) : Res D := match o, i with
  | .str z, .int k => match atI z.cps.toList k with
    | some c => needs (z.length ≤ 16777216) (.ok (.str ⟨#[c]⟩) μ)
    | none => .stuck
  | o, .int k => match seqD μ o with
    | some l => match atI l k with
      | some d => .ok d μ
      | none => .stuck
    | none => .stuck
  | _, _ => .stuck
def cutD (xs : List D) (lo hi : Option Int) : List D := (xs.drop (HT.sIx xs.length 0 lo)).take (HT.sIx xs.length xs.length hi - HT.sIx xs.length 0 lo)
def slcD (o : D) (lo hi : Option Int) (μ : Mu) : Res D := match o with
  | .str z => needs (z.length ≤ 16777216) (.ok (.str (cutS z lo hi)) μ)
  | .lst l => .ok (.lst (cutD l lo hi)) μ
  | .ref n => match μ[n]? with
    | some (.lst l) => .ok (.lst (cutD l lo hi)) μ
    | _ => .stuck
  | .tup l => needs (¬ (HT.sIx l.length 0 lo = 0 ∧ HT.sIx l.length l.length hi = l.length)) (.ok (.tup (cutD l lo hi)) μ)
  | _ => .stuck
def setIxD (o i v : D) (μ : Mu) : Res Unit := match o, i with
  | .ref n, .int k => match μ[n]? with
    | some (.lst l) => match ixN l.length k with
      | some j => .ok () (μ.set n (.lst (l.set j v)))
      | none => .stuck
    | _ => .stuck
  | _, _ => .stuck
def assignT (t : Tg) (d : D) (ρ : Rho) : Option Rho := match t with
  | .nm i => some (ρ.set i (some d))
  | .tp l => match d with
    | .tup ds => if ds.length = l.length then some ((l.zip ds).foldl (fun ρ p => ρ.set p.1 (some p.2)) ρ) else none
    | _ => none

/-! ### loops of comprehensions -/
def compLoop (f : D → Mu → Res (Option D)) (chk : Mu → Bool) : List D → List D → Mu → Res (List D)
  | acc, [], μ => if chk μ then .ok acc μ else .stuck
  | acc, d :: ds, μ => if chk μ then (match f d μ with
      | .ok none μ' => compLoop f chk acc ds μ'
      | .ok (some y) μ' => needs (acc.length < 16777216) (compLoop f chk (acc ++ [y]) ds μ')
      | _ => .stuck) else .stuck
/-- the items, and the list object that must stay while they are walked -/
abbrev Its := List D × Option (Nat × List D)
def chkOf (src : Option (Nat × List D)) (μ : Mu) : Bool := match src with
  | none => true
  | some (n, l) => match μ[n]? with
    | some (.lst l') => D.beqs l' l
    | _ => false
def rngD (lo : Int) (n : Nat) : List D := (List.range n).map fun (i : Nat) => D.int (lo + (i : Int))
def lim62 (i : Int) : Prop := -(2 ^ 62) ≤ i ∧ i < 2 ^ 62
instance (i : Int) : Decidable (lim62 i) := by unfold lim62; infer_instance
def itD (d : D) (μ : Mu) : Res Its := match d with
  | .tup l => .ok (l, none) μ
  | .lst l => .ok (l, none) μ
  | .ref n => match μ[n]? with
    | some (.lst l) => .ok (l, some (n, l)) μ
    | _ => .stuck
  | .str s => .ok (s.cps.toList.map fun c => D.str ⟨#[c]⟩, none) μ
  | _ => .stuck

mutual
def evalE (Γ : G) : E → Rho → Mu → Res D
  | .var i, ρ, μ => match ρ[i]? with
    | some (some d) => .ok d μ
    | _ => .stuck
  | .cst d, _, μ => .ok d μ
  | .glob g, _, μ => match Γ.con g with
    | some d => .ok d μ
    | none => .stuck
  | .bin o a b, ρ, μ => (evalE Γ a ρ μ).bind fun x μ => (evalE Γ b ρ μ).bind fun y μ => binD o x y μ
  | .neg a, ρ, μ => (evalE Γ a ρ μ).bind fun x μ => match x with
    | .int i => .ok (.int (-i)) μ
    | _ => .stuck
  | .notv t, ρ, μ => (evalT Γ t ρ μ).bind fun b μ => .ok (.bl (!b)) μ
  | .and a b, ρ, μ => (evalE Γ a ρ μ).bind fun x μ => (truD μ x μ).bind fun k μ => if k then evalE Γ b ρ μ else .ok x μ
  | .or a b, ρ, μ => (evalE Γ a ρ μ).bind fun x μ => (truD μ x μ).bind fun k μ => if k then .ok x μ else evalE Γ b ρ μ
  | .cmp o a b, ρ, μ => (evalE Γ a ρ μ).bind fun x μ => (evalE Γ b ρ μ).bind fun y μ => (cmpD o x y μ).bind fun k μ => .ok (.bl k) μ
  | .chn o o' a b c, ρ, μ => (evalE Γ a ρ μ).bind fun x μ => (evalE Γ b ρ μ).bind fun y μ => (cmpD o x y μ).bind fun k μ =>
      if k then (evalE Γ c ρ μ).bind fun z μ => (cmpD o' y z μ).bind fun k μ => .ok (.bl k) μ else .ok (.bl false) μ
  | .ite t a b, ρ, μ => (evalT Γ t ρ μ).bind fun k μ => if k then evalE Γ a ρ μ else evalE Γ b ρ μ
  | .call f as, ρ, μ => (evalEs Γ as ρ μ).bind fun ds μ => Γ.call f ds μ
  | .bif b as, ρ, μ => (evalEs Γ as ρ μ).bind fun ds μ => bifD b ds μ
  | .isi a t, ρ, μ => (evalE Γ a ρ μ).bind fun x μ => isiD x t μ
  | .met m o as, ρ, μ => (evalE Γ o ρ μ).bind fun x μ => needs (tyD m x μ = true) ((evalEs Γ as ρ μ).bind fun ds μ => metD m x ds μ)
  | .tr37 o, ρ, μ => (evalE Γ o ρ μ).bind fun x μ => tr37D x μ
  | .idx a b, ρ, μ => (evalE Γ a ρ μ).bind fun x μ => (evalE Γ b ρ μ).bind fun y μ => idxD x y μ
  | .slc a lo hi, ρ, μ => (evalE Γ a ρ μ).bind fun x μ => (evalO Γ lo ρ μ).bind fun l μ => (evalO Γ hi ρ μ).bind fun h μ => slcD x l h μ
  | .tup es, ρ, μ => (evalEs Γ es ρ μ).bind fun ds μ => needs (ds.length ≤ 16777216) (.ok (.tup ds) μ)
  | .lst es, ρ, μ => (evalEs Γ es ρ μ).bind fun ds μ => needs (ds.length ≤ 16777216) (.ok (.lst ds) μ)
  | .comp own tg it c e, ρ, μ => (evalIt Γ it ρ μ).bind fun ds μ =>
      (compLoop (fun d μ => match assignT tg d (wipeR ρ own) with
        | none => .stuck
        | some ρ' => (evalT Γ c ρ' μ).bind fun k μ => if k then (evalE Γ e ρ' μ).bind fun y μ => .ok (some y) μ else .ok none μ) (chkOf ds.2) [] ds.1 μ).bind fun l μ => .ok (.lst l) μ
  | .gdict g k, ρ, μ => (evalE Γ k ρ μ).bind fun x μ => match x with
    | .str s => match (Γ.dic g).lookup s with
      | some d => .ok d μ
      | none => .stuck
    | _ => .stuck
  | .gin neg g k, ρ, μ => (evalE Γ k ρ μ).bind fun x μ => match x with
    | .str s => .ok (.bl (if neg then !((Γ.dic g).lookup s).isSome else ((Γ.dic g).lookup s).isSome)) μ
    | _ => .stuck
def evalEs (Γ : G) : Es → Rho → Mu → Res (List D)
  | .nil, _, μ => .ok [] μ
  | .cons e es, ρ, μ => (evalE Γ e ρ μ).bind fun d μ => (evalEs Γ es ρ μ).bind fun ds μ => .ok (d :: ds) μ
def evalO (Γ : G) : O → Rho → Mu → Res (Option Int)
  | .none, _, μ => .ok none μ
  | .some e, ρ, μ => (evalE Γ e ρ μ).bind fun d μ => match d with
    | .int i => .ok (some i) μ
    | _ => .stuck
def evalT (Γ : G) : T → Rho → Mu → Res Bool
  | .yes, _, μ => .ok true μ
  | .val e, ρ, μ => (evalE Γ e ρ μ).bind fun d μ => truD μ d μ
  | .not t, ρ, μ => (evalT Γ t ρ μ).bind fun b μ => .ok (!b) μ
  | .and t u, ρ, μ => (evalT Γ t ρ μ).bind fun b μ => if b then evalT Γ u ρ μ else .ok false μ
  | .or t u, ρ, μ => (evalT Γ t ρ μ).bind fun b μ => if b then .ok true μ else evalT Γ u ρ μ
def evalIt (Γ : G) : IT → Rho → Mu → Res Its
  | .seq e, ρ, μ => (evalE Γ e ρ μ).bind fun d μ => itD d μ
  | .rng1 a, ρ, μ => (evalE Γ a ρ μ).bind fun x μ => match x with
    | .int j => needs (lim62 j) (.ok (rngD 0 j.toNat, none) μ)
    | _ => .stuck
  | .rng2 a b, ρ, μ => (evalE Γ a ρ μ).bind fun x μ => (evalE Γ b ρ μ).bind fun y μ => match x, y with
    | .int i, .int j => needs (lim62 i ∧ lim62 j) (.ok (rngD i (j - i).toNat, none) μ)
    | _, _ => .stuck
end

/-! ### statements -/
def evalR (Γ : G) : R → Rho → Mu → Res D
  | .base e, ρ, μ => evalE Γ e ρ μ
  | .repl r y z, ρ, μ => (evalR Γ r ρ μ).bind fun x μ => replD x y z μ
inductive Out where
  | nx (ρ : Rho) (μ : Mu)
  | br (ρ : Rho) (μ : Mu)
  | ct (ρ : Rho) (μ : Mu)
  | rt (d : D) (μ : Mu)
  | er (c : Nat) (fs : List D) (ρ : Rho) (μ : Mu)
  | stuck
def Res.then {α : Type} (r : Res α) (ρ : Rho) (f : α → Mu → Out) : Out := match r with
  | .ok a μ => f a μ
  | .err c fs μ => .er c fs ρ μ
  | .stuck => .stuck
def Out.next (o : Out) (f : Rho → Mu → Out) : Out := match o with
  | .nx ρ μ => f ρ μ
  | o => o
def forLoop (f : D → Rho → Mu → Out) (chk : Mu → Bool) : List D → Rho → Mu → Out
  | [], ρ, μ => if chk μ then .nx ρ μ else .stuck
  | d :: ds, ρ, μ => if chk μ then (match f d ρ μ with
      | .nx ρ' μ' => forLoop f chk ds ρ' μ'
      | .ct ρ' μ' => forLoop f chk ds ρ' μ'
      | .br ρ' μ' => .nx ρ' μ'
      | o => o) else .stuck
def whileLoop (c : Rho → Mu → Res Bool) (f : Rho → Mu → Out) : Nat → Rho → Mu → Out
  | 0, _, _ => .stuck
  | n + 1, ρ, μ => (c ρ μ).then ρ fun k μ => if k then (match f ρ μ with
      | .nx ρ' μ' => whileLoop c f n ρ' μ'
      | .ct ρ' μ' => whileLoop c f n ρ' μ'
      | .br ρ' μ' => .nx ρ' μ'
      | o => o) else .nx ρ μ
mutual
def runS (Γ : G) : S → Rho → Mu → Out
  | .setR i r, ρ, μ => (evalR Γ r ρ μ).then ρ fun d μ => .nx (ρ.set i (some d)) μ
  | .retR pre r post, ρ, μ => (evalR Γ r ρ μ).then ρ fun x μ => ((binD .add (.str pre) x μ).bind fun y μ => binD .add y (.str post) μ).then ρ fun d μ => .rt d μ
  | .set tg e, ρ, μ => (evalE Γ e ρ μ).then ρ fun d μ => match assignT tg d ρ with
    | some ρ' => .nx ρ' μ
    | none => .stuck
  | .new i e, ρ, μ => (evalE Γ e ρ μ).then ρ fun d μ => match d with
    | .lst l => .nx (ρ.set i (some (.ref μ.length))) (μ ++ [.lst l])
    | _ => .stuck
  | .setIx o i v, ρ, μ => (evalE Γ v ρ μ).then ρ fun x μ => (evalE Γ o ρ μ).then ρ fun y μ => (evalE Γ i ρ μ).then ρ fun z μ => (setIxD y z x μ).then ρ fun _ μ => .nx ρ μ
  | .aug i o e, ρ, μ => match ρ[i]? with
    | some (some (.int x)) => (evalE Γ e ρ μ).then ρ fun y μ => match o, y with
      | .add, .int j => .nx (ρ.set i (some (.int (x + j)))) μ
      | .sub, .int j => .nx (ρ.set i (some (.int (x - j)))) μ
      | _, _ => .stuck
    | _ => .stuck
  | .expr e, ρ, μ => (evalE Γ e ρ μ).then ρ fun _ μ => .nx ρ μ
  | .ifs t a b, ρ, μ => (evalT Γ t ρ μ).then ρ fun k μ => if k then runB Γ a ρ μ else runB Γ b ρ μ
  | .for_ tg it b, ρ, μ => (evalIt Γ it ρ μ).then ρ fun ds μ => forLoop (fun d ρ μ => match assignT tg d ρ with
      | some ρ' => runB Γ b ρ' μ
      | none => .stuck) (chkOf ds.2) ds.1 ρ μ
  | .whl t b, ρ, μ => whileLoop (fun ρ μ => evalT Γ t ρ μ) (fun ρ μ => runB Γ b ρ μ) Γ.wf ρ μ
  | .ret e, ρ, μ => (evalE Γ e ρ μ).then ρ fun d μ => .rt d μ
  | .retN, _, μ => .rt .non μ
  | .pass, ρ, μ => .nx ρ μ
  | .brk, ρ, μ => .br ρ μ
  | .cnt, ρ, μ => .ct ρ μ
  | .bad, _, _ => .stuck
def runB (Γ : G) : B → Rho → Mu → Out
  | .nil, ρ, μ => .nx ρ μ
  | .cons s b, ρ, μ => (runS Γ s ρ μ).next fun ρ μ => runB Γ b ρ μ
end

/-! ### defs -/
structure Fn where
  np : Nat
  ns : Nat
  body : B
/-- what a def made is forgotten where nothing points at it; a list that it made is handed back by value -/
def fin (n : Nat) (d : D) (μ : Mu) : Res D :=
  if μ.length = n then .ok d μ else
    let d' := match d with
      | .ref k => if n ≤ k then (match μ[k]? with
          | some (.lst l) => .lst l
          | _ => d) else d
      | _ => d
    if below n d' = true ∧ (μ.take n).all (belowMO n) = true ∧ n ≤ μ.length then .ok d' (μ.take n) else .ok d μ
def finO (n : Nat) : Out → Res D
  | .nx _ μ => fin n .non μ
  | .rt d μ => fin n d μ
  | .er c fs _ μ => if μ.length = n then .err c fs μ else if belows n fs = true ∧ (μ.take n).all (belowMO n) = true ∧ n ≤ μ.length then .err c fs (μ.take n) else .err c fs μ
  | _ => .stuck
def startR (ns : Nat) (ds : List D) : Rho := ds.map some ++ List.replicate (ns - ds.length) none
def callD (tab : List Fn) (con : Nat → Option D) (dic : Nat → List (Str × D)) (wf : Nat) : Nat → Nat → List D → Mu → Res D
  | 0, _, _, _ => .stuck
  | k + 1, f, ds, μ => match tab[f]? with
    | some fn => if ds.length = fn.np then finO μ.length (runB ⟨callD tab con dic wf k, con, dic, wf⟩ fn.body (startR fn.ns ds) μ) else .stuck
    | none => .stuck
end PyI
/-! A3: what the model does, in the words of the interpreter: frames of the proof, and operators. -/
namespace PyI
open PySem L2

/-! ### canonical readings -/
section
variable (X : Cx)
def wE (e : Expr) : TE := fun σ H Q => ∀ pins s, Inv X pins σ H s → wpAny (model X.prog X.w) X.A (eval e X.env) (EP X pins σ Q) X.xe s
def wT (e : Expr) : TT := fun σ H Q => ∀ pins s, Inv X pins σ H s → wpAny (model X.prog X.w) X.A (isTrue e X.env (eval e X.env)) (TP X pins σ Q) X.xe s
def wA (es : List Expr) : TA := fun σ H Q => ∀ (pos : Pos) pins s, Inv X pins σ H s → wpAny (model X.prog X.w) X.A (spliced (backTo pos (starEach es X.env))) (AP X pins σ Q) X.xe s
def wI (tg iter : Expr) : TI := fun σ H (R : L2.It → Hp → Prop) => ∀ pins s, Inv X pins σ H s →
  wpAny (model X.prog X.w) X.A (eval iter X.env) (fun v s1 => wpAny (model X.prog X.w) X.A (pyIter v) (PIE X pins σ tg R) X.xe s1) X.xe s
def wO (f : Value → Value → Sem Value) : R2 := fun x y H Q => ∀ pins s σ v u, Inv X pins σ H s → RelV x v → RelV y u → wpAny (model X.prog X.w) X.A (f v u) (EP X pins σ Q) X.xe s
def wU (f : Value → Sem Value) : V → Hp → VK → Prop := fun x H Q => ∀ pins s σ v, Inv X pins σ H s → RelV x v → wpAny (model X.prog X.w) X.A (f v) (EP X pins σ Q) X.xe s
def wC (f : Value) : List V → Hp → VK → Prop := fun xs H Q => ∀ pins s σ us, Inv X pins σ H s → Vals xs us → wpAny (model X.prog X.w) X.A (call f us) (EP X pins σ Q) X.xe s
def wM (id : String) : V → List V → Hp → VK → Prop := fun x xs H Q => ∀ pins s σ v us, Inv X pins σ H s → RelV x v → Vals xs us → wpAny (model X.prog X.w) X.A (call (.builtin id) (v :: us)) (EP X pins σ Q) X.xe s
end
section
variable {X : Cx} {e : Expr} {es : List Expr} {σ : St} {H : Hp} {Q : VK}
theorem pE : PE X e (wE X e) := ⟨fun pins s _ _ _ I h => h pins s I⟩
theorem pT : PT X e (wT X e) := ⟨fun pins s _ _ _ I h => h pins s I⟩
theorem pA : PA X es (wA X es) := ⟨fun pos pins s _ _ _ I h => h pos pins s I⟩
theorem pI {tg : Expr} : PI X tg e (wI X tg e) := ⟨fun pins s _ _ _ I h => h pins s I⟩
theorem pO {f : Value → Value → Sem Value} : OpR X f (wO X f) := fun pins s σ _ _ _ v u _ I r r' h => h pins s σ v u I r r'
theorem pU {f : Value → Sem Value} : UnR X f (wU X f) := fun pins s σ _ _ v _ I r h => h pins s σ v I r
theorem pC {f : Value} : CallR X f (wC X f) := fun pins s σ _ _ us _ I r h => h pins s σ us I r
theorem pM {id : String} : MtR X id (wM X id) := fun pins s σ _ _ _ v us _ I r r' h => h pins s σ v us I r r'
theorem we {t : TE} (p : PE X e t) (h : t σ H Q) : wE X e σ H Q := fun pins s I => p.run pins s σ H Q I h
theorem wt {t : TT} {Q : Bool → Hp → Prop} (p : PT X e t) (h : t σ H Q) : wT X e σ H Q := fun pins s I => p.run pins s σ H Q I h
theorem wa {t : TA} {Q : List V → Hp → Prop} (p : PA X es t) (h : t σ H Q) : wA X es σ H Q := fun pos pins s I => p.run pos pins s σ H Q I h
theorem wi {tg : Expr} {t : TI} {R : L2.It → Hp → Prop} (p : PI X tg e t) (h : t σ H R) : wI X tg e σ H R := fun pins s I => p.run pins s σ H R I h
theorem wo {f : Value → Value → Sem Value} {r : R2} {x y : V} (p : OpR X f r) (h : r x y H Q) : wO X f x y H Q := fun pins s σ v u I r r' => p pins s σ H x y v u Q I r r' h
theorem wu {f : Value → Sem Value} {r : V → Hp → VK → Prop} {x : V} (p : UnR X f r) (h : r x H Q) : wU X f x H Q := fun pins s σ v I r => p pins s σ H x v Q I r h
theorem wc {f : Value} {r : List V → Hp → VK → Prop} {xs : List V} (p : CallR X f r) (h : r xs H Q) : wC X f xs H Q := fun pins s σ us I r => p pins s σ H xs us Q I r h
theorem wm {id : String} {r : V → List V → Hp → VK → Prop} {x : V} {xs : List V} (p : MtR X id r) (h : r x xs H Q) : wM X id x xs H Q := fun pins s σ v us I r r' => p pins s σ H x xs v us Q I r r' h
end

/-! ### what is due of an answer -/
def ErrRep (K : PySem.W.Frag) (ct : CTab) (H : Hp) (M : AM) (c : Nat) (fs : List D) (cls : Value) (d : Option Addr) : Prop :=
  cls = .ref (ct.cls c) ∧ ∃ dx vs, d = some dx ∧ H dx = some (.xd vs) ∧ Reps K H M (vs.map (·.2)) fs
def Ok {α β : Type} (K : PySem.W.Frag) (ct : CTab) (R : Hp → AM → β → α → Prop) (M : AM) (H : Hp) (r : Res α) (Q : β → Hp → Prop) (W : XK) : Prop :=
  match r with
  | .ok a μ' => ∀ v H' M', Evo M H M' H' → RelH K ct H' μ' M' → R H' M' v a → Q v H'
  | .err c fs μ' => ∀ cls d H' M', Evo M H M' H' → RelH K ct H' μ' M' → ErrRep K ct H' M' c fs cls d → W cls d H'
  | .stuck => False
abbrev RD (K : PySem.W.Frag) : Hp → AM → V → D → Prop := fun H M v d => Rep K H M v d
abbrev RDs (K : PySem.W.Frag) : Hp → AM → List V → List D → Prop := fun H M v d => Reps K H M v d
abbrev RB : Hp → AM → Bool → Bool → Prop := fun _ _ v d => v = d
abbrev RO : Hp → AM → Option Int → Option Int → Prop := fun _ _ v d => v = d
abbrev RU : Hp → AM → Unit → Unit → Prop := fun _ _ _ _ => True
section
variable {α β γ δ : Type} {K : PySem.W.Frag} {ct : CTab} {R : Hp → AM → β → α → Prop} {R' : Hp → AM → δ → γ → Prop} {M M1 : AM} {H H1 : Hp} {r : Res α} {μ : Mu} {Q Q1 : β → Hp → Prop} {W : XK}
theorem Ok.evo (e : Evo M H M1 H1) (h : Ok K ct R M H r Q W) : Ok K ct R M1 H1 r Q W := by
  cases r with
  | ok a μ' => exact fun v H' M' e' => h v H' M' (e.trans e')
  | err c fs μ' => exact fun cls d H' M' e' => h cls d H' M' (e.trans e')
  | stuck => exact h
theorem Ok.step {f : α → Mu → Res γ} {Q' : δ → Hp → Prop} (h : Ok K ct R' M H (r.bind f) Q' W)
    (k : ∀ a μ1 v H1 M1, Evo M H M1 H1 → RelH K ct H1 μ1 M1 → R H1 M1 v a → Ok K ct R' M1 H1 (f a μ1) Q' W → Q1 v H1) : Ok K ct R M H r Q1 W := by
  cases r with
  | ok a μ' => exact fun v H' M' e R1 r1 => k a μ' v H' M' e R1 r1 (Ok.evo e h)
  | err c fs μ' => exact h
  | stuck => exact h
theorem Ok.ret {a : α} {v : β} (h : Ok K ct R M H (.ok a μ) Q W) (R1 : RelH K ct H μ M) (r1 : R H M v a) : Q v H := h v H M (Evo.refl M H) R1 r1
theorem Ok.needs {p : Prop} [Decidable p] (h : Ok K ct R M H (needs p r) Q W) : p ∧ Ok K ct R M H r Q W := by
  unfold PyI.needs at h
  by_cases q : p
  · rw [if_pos q] at h; exact ⟨q, h⟩
  · rw [if_neg q] at h; exact h.elim
theorem Ok.imp (h : Ok K ct R M H r Q W) (k : ∀ v H', Q v H' → Q1 v H') : Ok K ct R M H r Q1 W := by
  cases r with
  | ok a μ' => exact fun v H' M' e R1 r1 => k v H' (h v H' M' e R1 r1)
  | err c fs μ' => exact h
  | stuck => exact h
end

/-! ### the frame in which a def's text is read -/
structure Tb where
  fns : List (Str × Nat)
  cons : List Str
  dics : List Str
def spF (K : PySem.W.Frag) (ct : CTab) (Γ : G) (f n : Nat) : Sp := fun vs H Q E => ∃ ds μ M, vs.length = n ∧ RelH K ct H μ M ∧ Reps K H M vs ds ∧ Ok K ct (RD K) M H (Γ.call f ds μ) Q E
def bins : List Str := ["len", "int", "str", "tuple", "list", "sorted", "min", "max", "sum", "any", "all", "abs", "ord", "bool", "isinstance", "range", "enumerate", "zip", "set", "type", "reversed"]
/-- a dict of the module with text keys -/
def DicAt (K : PySem.W.Frag) (w : World) (d : Addr) (l : List (Str × D)) : Prop := ∃ es n, KDict K w d es n ∧ ∀ z, match l.lookup z with
  | none => PySem.W.nsIn K d z = some none
  | some dd => ∃ u v, PySem.W.nsIn K d z = some (some u) ∧ RelV v u ∧ ∀ H M, Rep K H M v dd
structure FrG (P : Program) (w : World) (K : PySem.W.Frag) (mg : Str → Option Value) (base : Heap) (A : Around) (ct : CTab) (tb : Tb) (Γ : G) : Prop where
  units : A.units + 64 < cLine
  bi : ∀ x ∈ bins, mg x = none
  call : ∀ f x n, tb.fns[f]? = some (x, n) → ∃ k a fd ps, FnOk P w K mg base (L2.CX P w) k a fd ps (spF K ct Γ f n) ∧ Room k A ∧ mg x = some (.ref a) ∧ PySem.W.keepIn K (.ref a) = true ∧ Binds K fd ps []
  ar : ∀ f x n ds μ, tb.fns[f]? = some (x, n) → ds.length ≠ n → Γ.call f ds μ = .stuck
  con : ∀ g x d, tb.cons[g]? = some x → Γ.con g = some d → ∃ u v, mg x = some u ∧ RelV v u ∧ ∀ H M, Rep K H M v d
  dic : ∀ g x, tb.dics[g]? = some x → ∃ d, mg x = some (.ref d) ∧ DicAt K w d (Γ.dic g)
structure Fr (X : Cx) (ct : CTab) (tb : Tb) (Γ : G) (N : List Str) (sc : Scope) : Prop where
  hN : X.N = N
  hsc : X.env.scope = sc
  nd : N.Nodup
  calm : X.calm = true
  kindF : sc.kind = .function
  g : FrG X.prog X.w X.K X.mg X.base X.A ct tb Γ

/-- e is evaluated as A tells -/
def Snd (X : Cx) (ct : CTab) (Γ : G) (e : Expr) (A : E) : Prop := ∀ (W : WX) (ρ : Rho) (μ : Mu) (σ : St) (H : Hp) (M : AM) (Q : VK), Takes X W → RelE X.K H M σ ρ → RelH X.K ct H μ M →
  Ok X.K ct (RD X.K) M H (evalE Γ A ρ μ) Q (fun c d H' => W c d σ H') → wE X e σ H Q
def SndA (X : Cx) (ct : CTab) (Γ : G) (es : List Expr) (A : Es) : Prop := ∀ (W : WX) (ρ : Rho) (μ : Mu) (σ : St) (H : Hp) (M : AM) (Q : List V → Hp → Prop), Takes X W → RelE X.K H M σ ρ → RelH X.K ct H μ M →
  Ok X.K ct (RDs X.K) M H (evalEs Γ A ρ μ) Q (fun c d H' => W c d σ H') → wA X es σ H Q
def SndT (X : Cx) (ct : CTab) (Γ : G) (e : Expr) (A : T) : Prop := ∀ (W : WX) (ρ : Rho) (μ : Mu) (σ : St) (H : Hp) (M : AM) (Q : Bool → Hp → Prop), Takes X W → RelE X.K H M σ ρ → RelH X.K ct H μ M →
  Ok X.K ct RB M H (evalT Γ A ρ μ) Q (fun c d H' => W c d σ H') → wT X e σ H Q

/-! ### values -/
section
variable {X : Cx} {ct : CTab} {K : PySem.W.Frag} {H : Hp} {M : AM} {μ : Mu} {x y z v : V} {d d' : D} {Q : VK} {W : XK}
theorem sl16 {n : Nat} (h : n ≤ 16777216) : n ≤ sizeLine := by rw [sizeLine_eq]; exact h
theorem sl16' {n : Nat} (h : n < 16777216) : n < sizeLine := by rw [sizeLine_eq]; exact h
/-- a list object of ours -/
theorem RelH.lst (R : RelH K ct H μ M) {n : Nat} {l : List D} {a : Addr} (h : μ[n]? = some (.lst l)) (ha : M.ix[n]? = some a) : ∃ xs, H a = some (.lst xs) ∧ Reps K H M xs l := by
  obtain ⟨a', e, xs, h1, r⟩ := R.at_ n _ h
  rw [ha] at e; cases e
  exact ⟨xs, h1, r⟩
/-- the items of a list or a tuple -/
theorem seq_of (R : RelH K ct H μ M) (r : Rep K H M x d) {l : List D} (h : seqD μ d = some l) : ∃ a xs, x = .ref a ∧ (SqL K H a xs ∨ SqT K H a xs) ∧ Reps K H M xs l := by
  cases r with
  | tup h1 r1 => cases h; exact ⟨_, _, rfl, .inr h1.sq, r1⟩
  | lst h1 r1 => cases h; exact ⟨_, _, rfl, .inl h1.sq, r1⟩
  | ref ha =>
    unfold seqD at h
    simp only at h
    split at h
    · rename_i l' hl
      cases h
      obtain ⟨xs, h1, r1⟩ := R.lst hl ha
      exact ⟨_, _, rfl, .inl (.inl (.inl h1)), r1⟩
    · cases h
  | non => cases h
  | bl => cases h
  | int => cases h
  | str => cases h
theorem Rep.int_inv {i : Int} (r : Rep K H M x (.int i)) : x = .int i := by cases r; rfl
theorem Rep.str_inv {s : Str} (r : Rep K H M x (.str s)) : x = .str s := by cases r; rfl
theorem Rep.bl_inv {b : Bool} (r : Rep K H M x (.bl b)) : x = .bl b := by cases r; rfl
theorem Rep.non_inv (r : Rep K H M x .non) : x = .non := by cases r; rfl

theorem bin_ok {op : Operator} {o : Bop} (ho : (match op with | .Add => some Bop.add | .Sub => some .sub | .Mult => some .mul | .FloorDiv => some .fdiv | .Mod => some .mod | .Pow => some .pow | .LShift => some .shl | .RShift => some .shr | .BitAnd => some .band | .BitOr => some .bor | .BitXor => some .bxor | _ => none) = some o)
    (R : RelH X.K ct H μ M) (rx : Rep X.K H M x d) (ry : Rep X.K H M y d') (h : Ok X.K ct (RD X.K) M H (binD o d d' μ) Q W) : wO X (binaryOp op) x y H Q := by
  unfold binD at h
  split at h
  case h_1 i j => cases op <;> cases ho; cases rx; cases ry; exact wo op_add ⟨i, j, rfl, rfl, h.ret R (.int _)⟩
  case h_2 i j => cases op <;> cases ho; cases rx; cases ry; exact wo op_sub ⟨i, j, rfl, rfl, h.ret R (.int _)⟩
  case h_3 i j => cases op <;> cases ho; cases rx; cases ry; exact wo op_mul ⟨i, j, rfl, rfl, h.needs.1, h.needs.2.ret R (.int _)⟩
  case h_4 i j => cases op <;> cases ho; cases rx; cases ry; exact wo op_fdiv ⟨i, j, rfl, rfl, h.needs.1, h.needs.2.ret R (.int _)⟩
  case h_5 i j => cases op <;> cases ho; cases rx; cases ry; exact wo op_mod ⟨i, j, rfl, rfl, h.needs.1, h.needs.2.ret R (.int _)⟩
  case h_6 i j => cases op <;> cases ho; cases rx; cases ry; exact wo op_pow ⟨i, j, rfl, rfl, h.needs.1, h.needs.2.ret R (.int _)⟩
  case h_7 i j => cases op <;> cases ho; cases rx; cases ry; exact wo op_shl ⟨i, j, rfl, rfl, h.needs.1, h.needs.2.ret R (.int _)⟩
  case h_8 i j => cases op <;> cases ho; cases rx; cases ry; exact wo op_shr ⟨i, j, rfl, rfl, h.needs.1, h.needs.2.ret R (.int _)⟩
  case h_9 i j => cases op <;> cases ho; cases rx; cases ry; exact wo op_and ⟨i, j, rfl, rfl, h.ret R (.int _)⟩
  case h_10 i j => cases op <;> cases ho; cases rx; cases ry; exact wo op_or ⟨i, j, rfl, rfl, h.ret R (.int _)⟩
  case h_11 i j => cases op <;> cases ho; cases rx; cases ry; exact wo op_xor ⟨i, j, rfl, rfl, h.ret R (.int _)⟩
  case h_12 i j => cases op <;> cases ho; cases rx; cases ry; exact wo op_add_str ⟨i, j, rfl, rfl, sl16 h.needs.1, h.needs.2.ret R (.str _)⟩
  case h_13 => exact h.elim


/-! ### equality -/
mutual
def PD : D → PyData
  | .non => .none
  | .bl b => .bool b
  | .int i => .int i
  | .str s => .str s
  | .tup l => .tuple (PDs l)
  | .lst l => .list (PDs l)
  | .ref _ => .none
def PDs : List D → List PyData
  | [] => []
  | d :: ds => PD d :: PDs ds
end
mutual
theorem dp_of {n : Nat} : ∀ {x : V} {d : D}, Rep K H M x d → eqOk n d = true → Dp K H x (PD d)
  | _, _, .non, _ => .non
  | _, _, .bl b, _ => .bl b
  | _, _, .int i, _ => .int i
  | _, _, .str s, _ => .str s
  | _, _, .tup h r, q => by
    cases n with
    | zero => simp [eqOk] at q
    | succ n => exact .tup h.sq (dps_of r (by simpa only [eqOk] using q))
  | _, _, .lst h r, q => by
    cases n with
    | zero => simp [eqOk] at q
    | succ n => exact .lst h.sq (dps_of r (by simpa only [eqOk] using q))
  | _, _, .ref _, q => by cases n <;> simp [eqOk] at q
theorem dps_of {n : Nat} : ∀ {xs : List V} {ds : List D}, Reps K H M xs ds → eqOks n ds = true → DpAll K H xs (PDs ds)
  | _, _, .nil, _ => .nil
  | _, _, .cons h r, q => by
    simp only [eqOks, Bool.and_eq_true] at q
    exact .cons (dp_of h q.1) (dps_of r q.2)
end
mutual
theorem lay_of : ∀ {n : Nat} {d : D}, eqOk n d = true → (PD d).canLay0 = true ∧ (PD d).depth ≤ n
  | _, .non, _ => ⟨rfl, Nat.zero_le _⟩
  | _, .bl _, _ => ⟨rfl, Nat.zero_le _⟩
  | _, .int _, _ => ⟨rfl, Nat.zero_le _⟩
  | n, .str s, q => ⟨by cases n <;> simpa [eqOk, PD, PyData.canLay0, PyData.strOk] using q, Nat.zero_le _⟩
  | 0, .tup _, q => by simp [eqOk] at q
  | 0, .lst _, q => by simp [eqOk] at q
  | n + 1, .tup l, q => by
    have z := lays_of (n := n) (ds := l) (by simpa only [eqOk] using q)
    exact ⟨by simpa only [PD, PyData.canLay0] using z.1, by simpa only [PD, PyData.depth] using Nat.succ_le_succ z.2⟩
  | n + 1, .lst l, q => by
    have z := lays_of (n := n) (ds := l) (by simpa only [eqOk] using q)
    exact ⟨by simpa only [PD, PyData.canLay0] using z.1, by simpa only [PD, PyData.depth] using Nat.succ_le_succ z.2⟩
  | n, .ref _, q => by cases n <;> simp [eqOk] at q
theorem lays_of : ∀ {n : Nat} {ds : List D}, eqOks n ds = true → PyData.canLayAll0 (PDs ds) = true ∧ PyData.depthAll (PDs ds) ≤ n
  | _, [], _ => ⟨rfl, Nat.zero_le _⟩
  | n, d :: ds, q => by
    simp only [eqOks, Bool.and_eq_true] at q
    have a := lay_of q.1
    have b := lays_of q.2
    exact ⟨by simp only [PDs, PyData.canLayAll0, a.1, b.1, Bool.and_self], by simp only [PDs, PyData.depthAll]; exact Nat.max_le.mpr ⟨a.2, b.2⟩⟩
end
mutual
theorem eqv_of : ∀ {n m : Nat} {d e : D}, eqOk n d = true → eqOk m e = true → PyData.eqv (PD d) (PD e) = eqD d e
  | n, m, .ref _, _, q, _ => by cases n <;> simp [eqOk] at q
  | n, m, _, .ref _, _, q => by cases m <;> simp [eqOk] at q
  | 0, _, .tup _, _, q, _ => by simp [eqOk] at q
  | 0, _, .lst _, _, q, _ => by simp [eqOk] at q
  | _, 0, _, .tup _, _, q => by simp [eqOk] at q
  | _, 0, _, .lst _, _, q => by simp [eqOk] at q
  | n + 1, m + 1, .tup a, .tup b, q, p => by
    simp only [PD, PyData.eqv, eqD]
    exact eqvs_of (n := n) (m := m) (by simpa only [eqOk] using q) (by simpa only [eqOk] using p)
  | n + 1, m + 1, .lst a, .lst b, q, p => by
    simp only [PD, PyData.eqv, eqD]
    exact eqvs_of (n := n) (m := m) (by simpa only [eqOk] using q) (by simpa only [eqOk] using p)
  | n + 1, m + 1, .tup a, .lst b, q, p => by simp only [PD, PyData.eqv, eqD]
  | n + 1, m + 1, .lst a, .tup b, q, p => by simp only [PD, PyData.eqv, eqD]
  | n + 1, m, .tup a, .non, q, p => by simp only [PD, PyData.eqv, eqD]
  | n + 1, m, .tup a, .bl _, q, p => by simp only [PD, PyData.eqv, eqD]
  | n + 1, m, .tup a, .int _, q, p => by simp only [PD, PyData.eqv, eqD]
  | n + 1, m, .tup a, .str _, q, p => by simp only [PD, PyData.eqv, eqD]
  | n + 1, m, .lst a, .non, q, p => by simp only [PD, PyData.eqv, eqD]
  | n + 1, m, .lst a, .bl _, q, p => by simp only [PD, PyData.eqv, eqD]
  | n + 1, m, .lst a, .int _, q, p => by simp only [PD, PyData.eqv, eqD]
  | n + 1, m, .lst a, .str _, q, p => by simp only [PD, PyData.eqv, eqD]
  | n, m + 1, .non, .tup _, q, p => by simp only [PD, PyData.eqv, eqD]
  | n, m + 1, .bl _, .tup _, q, p => by simp only [PD, PyData.eqv, eqD]
  | n, m + 1, .int _, .tup _, q, p => by simp only [PD, PyData.eqv, eqD]
  | n, m + 1, .str _, .tup _, q, p => by simp only [PD, PyData.eqv, eqD]
  | n, m + 1, .non, .lst _, q, p => by simp only [PD, PyData.eqv, eqD]
  | n, m + 1, .bl _, .lst _, q, p => by simp only [PD, PyData.eqv, eqD]
  | n, m + 1, .int _, .lst _, q, p => by simp only [PD, PyData.eqv, eqD]
  | n, m + 1, .str _, .lst _, q, p => by simp only [PD, PyData.eqv, eqD]
  | n, m, .non, .non, q, p => by simp only [PD, PyData.eqv, eqD]
  | n, m, .non, .bl _, q, p => by simp only [PD, PyData.eqv, eqD]
  | n, m, .non, .int _, q, p => by simp only [PD, PyData.eqv, eqD]
  | n, m, .non, .str _, q, p => by simp only [PD, PyData.eqv, eqD]
  | n, m, .bl _, .non, q, p => by simp only [PD, PyData.eqv, eqD]
  | n, m, .bl _, .bl _, q, p => by simp only [PD, PyData.eqv, eqD]
  | n, m, .bl _, .int _, q, p => by simp only [PD, PyData.eqv, eqD]
  | n, m, .bl _, .str _, q, p => by simp only [PD, PyData.eqv, eqD]
  | n, m, .int _, .non, q, p => by simp only [PD, PyData.eqv, eqD]
  | n, m, .int _, .bl _, q, p => by simp only [PD, PyData.eqv, eqD]
  | n, m, .int _, .int _, q, p => by simp only [PD, PyData.eqv, eqD]
  | n, m, .int _, .str _, q, p => by simp only [PD, PyData.eqv, eqD]
  | n, m, .str _, .non, q, p => by simp only [PD, PyData.eqv, eqD]
  | n, m, .str _, .bl _, q, p => by simp only [PD, PyData.eqv, eqD]
  | n, m, .str _, .int _, q, p => by simp only [PD, PyData.eqv, eqD]
  | n, m, .str _, .str _, q, p => by simp only [PD, PyData.eqv, eqD]
theorem eqvs_of : ∀ {n m : Nat} {ds es : List D}, eqOks n ds = true → eqOks m es = true → PyData.eqvAll (PDs ds) (PDs es) = eqDs ds es
  | _, _, [], [], _, _ => by simp only [PDs, PyData.eqvAll, eqDs]
  | _, _, [], _ :: _, _, _ => by simp only [PDs, PyData.eqvAll, eqDs]
  | _, _, _ :: _, [], _, _ => by simp only [PDs, PyData.eqvAll, eqDs]
  | n, m, d :: ds, e :: es, q, p => by
    simp only [eqOks, Bool.and_eq_true] at q p
    simp only [PDs, PyData.eqvAll, eqDs, eqv_of q.1 p.1, eqvs_of q.2 p.2]
end
theorem shaped_of {d : D} (h : eqOk 64 d = true) : SeqAt.shaped (PD d) = true := by
  unfold SeqAt.shaped
  rw [(lay_of h).1, decide_eq_true (lay_of h).2]
  rfl
theorem Rep.deref (R : RelH K ct H μ M) (r : Rep K H M x d) (h : eqOk 64 (deref μ d) = true) : Dp K H x (PD (PyI.deref μ d)) := by
  cases r with
  | ref ha =>
    unfold PyI.deref at h ⊢
    simp only at h ⊢
    split at h
    · rename_i l' hl
      obtain ⟨xs, h1, r1⟩ := R.lst hl ha
      exact .lst (.inl (.inl h1)) (dps_of (n := 63) r1 (by simpa only [eqOk] using h))
    · simp [eqOk] at h
  | non => exact .non
  | bl b => exact .bl b
  | int i => exact .int i
  | str s => exact .str s
  | tup h1 r1 => exact dp_of (.tup h1 r1) h
  | lst h1 r1 => exact dp_of (.lst h1 r1) h
/-- flat values -/
theorem flat_of (r : Rep K H M x d) (h : flatD d = true) : flatV x = true := by cases r <;> first | rfl | (simp [flatD] at h)
theorem flats_of : ∀ {xs : List V} {ds : List D}, Reps K H M xs ds → ds.all flatD = true → xs.all flatV = true
  | _, _, .nil, _ => rfl
  | _, _, .cons h r, q => by
    simp only [List.all_cons, Bool.and_eq_true] at q ⊢
    exact ⟨flat_of h q.1, flats_of r q.2⟩
theorem eqV_of (rx : Rep K H M x d) (ry : Rep K H M y d') (h : flatD d = true) (h' : flatD d' = true) : eqV x y = eqD d d' := by
  cases rx <;> first | (simp [flatD] at h; done) | (cases ry <;> first | (simp [flatD] at h'; done) | simp only [eqV, eqD])
theorem inV_of (rx : Rep K H M x d) (h : flatD d = true) : ∀ {xs : List V} {ds : List D}, Reps K H M xs ds → ds.all flatD = true → inV x xs = ds.any fun y => eqD y d
  | _, _, .nil, _ => rfl
  | _, _, .cons hh r, q => by
    simp only [List.all_cons, Bool.and_eq_true] at q
    have ih := inV_of rx h r q.2
    unfold inV at ih ⊢
    rw [List.any_cons, List.any_cons, ih, eqV_of hh rx q.1 h]
/-- is of a bool -/
def rIsB' (neg : Bool) : R2 := fun x y H Q => ∃ b, y = .bl b ∧ (match x with | .byt _ => False | .flt _ => False | .ty _ => False | _ => True) ∧ Q (.bl (if neg then !decide (x = .bl b) else decide (x = .bl b))) H
theorem op_isB' : OpR X (compareOp .Is) (rIsB' false) := by
  intro pins s σ H x y v u Q I rx ry h
  obtain ⟨b, rfl, hx, q⟩ := h
  cases (show u = Value.bool b from ry)
  cases x with
  | non => cases (show v = Value.none from rx); exact wpAny_is_other rfl (by intro z; cases z) ⟨.bl false, H, I, rfl, by simpa using q⟩
  | bl a =>
    cases (show v = Value.bool a from rx)
    by_cases e : a = b
    · subst e; exact wpAny_is_self rfl ⟨.bl true, H, I, rfl, by simpa using q⟩
    · exact wpAny_is_other rfl (fun z => e (Value.bool.inj z)) ⟨.bl false, H, I, rfl, by simpa [e] using q⟩
  | int i => obtain ⟨t, rfl⟩ := rx; exact wpAny_is_other rfl (by intro z; cases z) ⟨.bl false, H, I, rfl, by simpa using q⟩
  | str i => obtain ⟨t, rfl⟩ := rx; exact wpAny_is_other rfl (by intro z; cases z) ⟨.bl false, H, I, rfl, by simpa using q⟩
  | ref a => cases (show v = Value.ref a from rx); exact wpAny_is_other rfl (by intro z; cases z) ⟨.bl false, H, I, rfl, by simpa using q⟩
  | byt _ => exact hx.elim
  | flt _ => exact hx.elim
  | ty _ => exact hx.elim
theorem op_isnB' : OpR X (compareOp .IsNot) (rIsB' true) := by
  intro pins s σ H x y v u Q I rx ry h
  obtain ⟨b, rfl, hx, q⟩ := h
  cases (show u = Value.bool b from ry)
  cases x with
  | non => cases (show v = Value.none from rx); exact wpAny_isNot_other rfl (by intro z; cases z) ⟨.bl true, H, I, rfl, by simpa using q⟩
  | bl a =>
    cases (show v = Value.bool a from rx)
    by_cases e : a = b
    · subst e; exact wpAny_isNot_self rfl ⟨.bl false, H, I, rfl, by simpa using q⟩
    · exact wpAny_isNot_other rfl (fun z => e (Value.bool.inj z)) ⟨.bl true, H, I, rfl, by simpa [e] using q⟩
  | int i => obtain ⟨t, rfl⟩ := rx; exact wpAny_isNot_other rfl (by intro z; cases z) ⟨.bl true, H, I, rfl, by simpa using q⟩
  | str i => obtain ⟨t, rfl⟩ := rx; exact wpAny_isNot_other rfl (by intro z; cases z) ⟨.bl true, H, I, rfl, by simpa using q⟩
  | ref a => cases (show v = Value.ref a from rx); exact wpAny_isNot_other rfl (by intro z; cases z) ⟨.bl true, H, I, rfl, by simpa using q⟩
  | byt _ => exact hx.elim
  | flt _ => exact hx.elim
  | ty _ => exact hx.elim
def copOf : CmpOp → Cop
  | .Eq => .eq | .NotEq => .ne | .Lt => .lt | .LtE => .le | .Gt => .gt | .GtE => .ge | .Is => .is_ | .IsNot => .isnot | .In => .in_ | .NotIn => .notin
/-- comparisons: Q is asked at a bool -/
theorem cmp_ok {op : CmpOp} {B : Bool → Hp → Prop} (hu : X.A.units + 64 < cLine) (R : RelH X.K ct H μ M) (rx : Rep X.K H M x d) (ry : Rep X.K H M y d') (h : Ok X.K ct RB M H (cmpD (copOf op) d d' μ) B W) (hq : ∀ b H', B b H' → Q (.bl b) H') : wO X (compareOp op) x y H Q := by
  cases op
  case Eq =>
    obtain ⟨⟨h1, h2⟩, h⟩ := (show Ok X.K ct RB M H (needs (eqOk 64 (deref μ d) = true ∧ eqOk 64 (deref μ d') = true) (.ok (eqD (deref μ d) (deref μ d')) μ)) B W from h).needs
    refine wo (op_eqD hu) ⟨_, _, rx.deref R h1, ry.deref R h2, shaped_of h1, shaped_of h2, hq _ _ ?_⟩
    rw [eqv_of h1 h2]
    exact h.ret R rfl
  case NotEq =>
    obtain ⟨⟨h1, h2⟩, h⟩ := (show Ok X.K ct RB M H (needs (eqOk 64 (deref μ d) = true ∧ eqOk 64 (deref μ d') = true) (.ok (!eqD (deref μ d) (deref μ d')) μ)) B W from h).needs
    refine wo (op_neD hu) ⟨_, _, rx.deref R h1, ry.deref R h2, shaped_of h1, shaped_of h2, hq _ _ ?_⟩
    rw [eqv_of h1 h2]
    exact h.ret R rfl
  case Lt =>
    unfold cmpD copOf at h
    simp only at h
    split at h
    · cases rx; cases ry; exact wo op_lt ⟨_, _, rfl, rfl, hq _ _ (h.ret R rfl)⟩
    · cases rx; cases ry; exact wo op_lt_str ⟨_, _, rfl, rfl, hq _ _ (h.ret R rfl)⟩
    · exact h.elim
  case LtE =>
    unfold cmpD copOf at h
    simp only at h
    split at h
    · cases rx; cases ry; exact wo op_le ⟨_, _, rfl, rfl, hq _ _ (h.ret R rfl)⟩
    · cases rx; cases ry; exact wo op_le_str ⟨_, _, rfl, rfl, hq _ _ (h.ret R rfl)⟩
    · exact h.elim
  case Gt =>
    unfold cmpD copOf at h
    simp only at h
    split at h
    · cases rx; cases ry; exact wo op_gt ⟨_, _, rfl, rfl, hq _ _ (h.ret R rfl)⟩
    · cases rx; cases ry; exact wo op_gt_str ⟨_, _, rfl, rfl, hq _ _ (h.ret R rfl)⟩
    · exact h.elim
  case GtE =>
    unfold cmpD copOf at h
    simp only at h
    split at h
    · cases rx; cases ry; exact wo op_ge ⟨_, _, rfl, rfl, hq _ _ (h.ret R rfl)⟩
    · cases rx; cases ry; exact wo op_ge_str ⟨_, _, rfl, rfl, hq _ _ (h.ret R rfl)⟩
    · exact h.elim
  case Is =>
    unfold cmpD copOf at h
    simp only at h
    split at h
    · cases rx; cases ry; exact wo op_isN ⟨rfl, hq _ _ (by simpa using h.ret R rfl)⟩
    · rename_i hn
      cases ry
      refine wo op_isN ⟨rfl, hq _ _ ?_⟩
      have e : decide (x = V.non) = false := decide_eq_false (by rintro rfl; cases rx; exact hn rfl)
      rw [e]; exact h.ret R rfl
    · rename_i a b
      cases rx; cases ry
      refine wo op_isB' ⟨b, rfl, trivial, hq _ _ ?_⟩
      have z := h.ret R rfl
      by_cases e : a = b
      · simpa [e] using z
      · have e2 : (a == b) = false := beq_eq_false_iff_ne.mpr e
        rw [e2] at z
        simpa [e] using z
    · rename_i b hn
      cases ry
      refine wo op_isB' ⟨b, rfl, by cases rx <;> trivial, hq _ _ ?_⟩
      have e : decide (x = V.bl b) = false := decide_eq_false (by rintro rfl; cases rx; exact hn _ rfl)
      simp only [Bool.false_eq_true, if_false, e]
      exact h.ret R rfl
    · exact h.elim
  case IsNot =>
    unfold cmpD copOf at h
    simp only at h
    split at h
    · cases rx; cases ry; exact wo op_notN ⟨rfl, hq _ _ (by simpa using h.ret R rfl)⟩
    · rename_i hn
      cases ry
      refine wo op_notN ⟨rfl, hq _ _ ?_⟩
      have e : decide (x = V.non) = false := decide_eq_false (by rintro rfl; cases rx; exact hn rfl)
      rw [e]; exact h.ret R rfl
    · rename_i a b
      cases rx; cases ry
      refine wo op_isnB' ⟨b, rfl, trivial, hq _ _ ?_⟩
      have z := h.ret R rfl
      by_cases e : a = b
      · simpa [e] using z
      · have e2 : (a == b) = false := beq_eq_false_iff_ne.mpr e
        rw [e2] at z
        simpa [e] using z
    · rename_i b hn
      cases ry
      refine wo op_isnB' ⟨b, rfl, by cases rx <;> trivial, hq _ _ ?_⟩
      have e : decide (x = V.bl b) = false := decide_eq_false (by rintro rfl; cases rx; exact hn _ rfl)
      simp only [if_true, e, Bool.not_false]
      exact h.ret R rfl
    · exact h.elim
  case In =>
    unfold cmpD copOf at h
    simp only at h
    split at h
    · cases rx; cases ry; exact wo op_in_str ⟨_, _, rfl, rfl, hq _ _ (h.ret R rfl)⟩
    · split at h
      · rename_i l hl
        obtain ⟨⟨h1, h2⟩, h⟩ := h.needs
        obtain ⟨a, xs, rfl, hs, rs⟩ := seq_of R ry hl
        refine wo op_in_seq ⟨a, xs, rfl, hs, flat_of rx h1, flats_of rs h2, hq _ _ ?_⟩
        simp only [Bool.false_eq_true, if_false, inV_of rx h1 rs h2]
        exact h.ret R rfl
      · exact h.elim
  case NotIn =>
    unfold cmpD copOf at h
    simp only at h
    split at h
    · cases rx; cases ry; exact wo op_notIn_str ⟨_, _, rfl, rfl, hq _ _ (h.ret R rfl)⟩
    · split at h
      · rename_i l hl
        obtain ⟨⟨h1, h2⟩, h⟩ := h.needs
        obtain ⟨a, xs, rfl, hs, rs⟩ := seq_of R ry hl
        refine wo op_notIn_seq ⟨a, xs, rfl, hs, flat_of rx h1, flats_of rs h2, hq _ _ ?_⟩
        simp only [if_true, inV_of rx h1 rs h2]
        exact h.ret R rfl
      · exact h.elim
/-- truth -/
theorem tru_ok {B : Bool → Hp → Prop} {ν : Mu} (R : RelH K ct H μ M) (rx : Rep K H M x d) (h : Ok K ct RB M H (truD μ d μ) B W) : ∃ k, TruV K x H k ∧ truD μ d μ = .ok k μ ∧ B k H := by
  cases rx with
  | non => exact ⟨false, rfl, rfl, h.ret R rfl⟩
  | bl b => exact ⟨b, rfl, rfl, h.ret R rfl⟩
  | int i => exact ⟨i != 0, rfl, rfl, h.ret R rfl⟩
  | str s =>
    have h' := (show Ok K ct RB M H (needs (s.length ≤ 16777216) (.ok (s.length != 0) μ)) B W from h).needs
    refine ⟨s.length != 0, ⟨sl16 h'.1, ?_⟩, needs_pos h'.1, h'.2.ret R rfl⟩
    cases e : s.length with
    | zero => rfl
    | succ n =>
      have e1 : (n + 1 != 0) = true := by simp
      have e2 : (((n + 1 : Nat) : Int) != 0) = true := by simp; omega
      rw [e1, e2]
  | tup h1 r1 =>
    rename_i a xs ds
    refine ⟨!ds.isEmpty, .inr (.inl ⟨_, h1.sq, ?_⟩), rfl, h.ret R rfl⟩
    cases r1 <;> rfl
  | lst h1 r1 =>
    rename_i a xs ds
    refine ⟨!ds.isEmpty, .inl ⟨_, h1.sq, ?_⟩, rfl, h.ret R rfl⟩
    cases r1 <;> rfl
  | ref ha =>
    unfold truD at h ⊢
    simp only at h ⊢
    split at h
    · rename_i l' hl
      obtain ⟨xs, h1, r1⟩ := R.lst hl ha
      refine ⟨!l'.isEmpty, .inl ⟨_, .inl (.inl h1), ?_⟩, rfl, h.ret R rfl⟩
      cases r1 <;> rfl
    · exact h.elim
end
end PyI
/-! A4: text.translate({37: None}); built-in calls, methods, subscripts. -/
namespace PyI.Tr
open PySem Builtin Builtin.Str L2
section
variable {prog : Program} {w : World} {A : Around} {E : Value → Shared → Prop} {s : Shared} {d : Addr} {c : Nat}
abbrev M37 (prog : Program) (w : World) (h : Heap) (d : Addr) : Prop := h.DictOf (mixKind prog w) d [(Sum.inl 37, Value.none)]
theorem m37_keeps {h h' : Heap} (m : M37 prog w h d) (k : ∀ b o, h.get? b = some o → h'.get? b = some o) : M37 prog w h' d := by
  obtain ⟨o, es, ep, ho, r⟩ := m
  exact ⟨o, es, ep, k _ _ ho, r⟩
theorem tl37 {Q : Mapped → Shared → Prop} (hh : A.handled = none) (hd : (d == sysModules) = false) (hm : M37 prog w s.heap d)
    (h1 : c = 37 → ∀ k, Q .drop { s with toks := k })
    (h2 : c ≠ 37 → ∀ h' k, (∀ b o, s.heap.get? b = some o → h'.get? b = some o) → Q .keep { s with heap := h', toks := k }) : wpAny (model prog w) A (tableLookup (.ref d) c) Q E s := by
  unfold tableLookup
  refine wpAny_bind (wpAny_attempt (wpAny_bind (wpAny_mkInt ?_)))
  by_cases hc : c = 37
  · refine wpAny_getItem_of (knd := mixKind prog w) (k := (Sum.inl (c : Int))) (v := Value.none) (mixKind_int ..) hm.mapOf (by subst hc; rfl) ?_
    exact wpAny_pure (h1 hc _)
  · refine wpAny_getItem_missing_of (knd := mixKind prog w) (k := (Sum.inl (c : Int))) (mixKind_int ..) hd hh hm.mapOf ?_ fun h' e hx => ?_
    · unfold valueAt
      rw [List.find?_cons, List.find?_nil]
      have : decide (((Sum.inl 37 : Key), Value.none).1 = Sum.inl (c : Int)) = false := decide_eq_false (fun z => hc (by have := Sum.inl.inj z; omega))
      rw [this]; rfl
    show wpAny _ _ (do let b ← isInstance (.ref e) (.type "LookupError"); _) _ _ _
    obtain ⟨ob, t, ho, hc', _⟩ := hx.there
    refine wpAny_bind (wpAny_isInstance (T := "KeyError") (b := true) ⟨ob, ho, hc'⟩ key_is_lookup ?_)
    show wpAny _ _ (if true = true then (do rule "str.translate.not-in-table"; pure Mapped.keep) else _) _ _ _
    rw [if_pos rfl]
    exact wpAny_bind (wpAny_rule (wpAny_pure (h2 hc h' _ hx.keeps)))
end
abbrev one37 (c : Nat) : Option Nat := if c = 37 then none else some c
theorem pieces37 : ∀ (l : List Nat) (acc : Array Nat), List.foldl (fun acc (p : Str) => acc ++ p.cps) acc (l.map fun c => (⟨#[c]⟩ : Str)) = acc ++ l.toArray
  | [], acc => by
    show acc = acc ++ #[]
    rw [Array.append_empty]
  | c :: l, acc => by
    rw [List.map_cons, List.foldl_cons, pieces37 l]
    apply Array.toList_inj.mp
    simp
/-- what stands while the signs are walked -/
def At37 (x : List Nat) (s : Shared) (rest : List Nat) (st : List Str × Nat × Bool × List (Nat × Option Nat) × Bool) (s' : Shared) : Prop :=
  ∃ (past : List Nat) (pieces : List Str) (known : List (Nat × Option Nat)) (n : Nat) (h' : Heap) (k : Nat), x = past ++ rest ∧ n ≤ past.length ∧ st = (pieces, n, true, known, false) ∧ pieces.reverse = (past.filter (· != 37)).map (fun c => (⟨#[c]⟩ : Str)) ∧
    (∀ c a, List.lookup c known = some a → a = one37 c) ∧ s' = { s with heap := h', toks := k } ∧ ∀ b o, s.heap.get? b = some o → h'.get? b = some o
theorem At37.keep {x : List Nat} {s : Shared} {rest past : List Nat} {n : Nat} {c : Nat} {pieces : List Str} {known : List (Nat × Option Nat)} {h' : Heap} {k : Nat} (hc : c ≠ 37) (h1 : x = past ++ c :: rest) (hn : n ≤ past.length)
    (h3 : pieces.reverse = (past.filter (· != 37)).map (fun c => (⟨#[c]⟩ : Str))) (h4 : ∀ c a, List.lookup c known = some a → a = one37 c) (h6 : ∀ b o, s.heap.get? b = some o → h'.get? b = some o) :
    At37 x s rest (⟨#[c]⟩ :: pieces, n + 1, true, known, false) { s with heap := h', toks := k } := by
  refine ⟨past ++ [c], ⟨#[c]⟩ :: pieces, known, n + 1, h', k, ?_, ?_, rfl, ?_, h4, rfl, h6⟩
  · rw [h1, List.append_assoc] <;> rfl
  · rw [List.length_append]; exact Nat.succ_le_succ hn
  · rw [List.reverse_cons, h3, List.filter_append, List.map_append]
    have : List.filter (fun x => x != 37) [c] = [c] := by simp [hc]
    rw [this]; rfl
theorem At37.drop {x : List Nat} {s : Shared} {rest past : List Nat} {n : Nat} {c : Nat} {pieces : List Str} {known : List (Nat × Option Nat)} {h' : Heap} {k : Nat} (hc : c = 37) (h1 : x = past ++ c :: rest) (hn : n ≤ past.length)
    (h3 : pieces.reverse = (past.filter (· != 37)).map (fun c => (⟨#[c]⟩ : Str))) (h4 : ∀ c a, List.lookup c known = some a → a = one37 c) (h6 : ∀ b o, s.heap.get? b = some o → h'.get? b = some o) :
    At37 x s rest (pieces, n, true, known, false) { s with heap := h', toks := k } := by
  refine ⟨past ++ [c], pieces, known, n, h', k, ?_, ?_, rfl, ?_, h4, rfl, h6⟩
  · rw [h1, List.append_assoc] <;> rfl
  · rw [List.length_append]; exact Nat.le_succ_of_le hn
  · rw [h3, List.filter_append]
    have : List.filter (fun x => x != 37) [c] = [] := by simp [hc]
    rw [this, List.append_nil]
theorem meets37 {prog : Program} {w : World} (x : List Nat) (t : Tok) (d : Addr) (hd : (d == sysModules) = false) (hz : x.length ≤ 1000000) (hf : x.toArray.all (fun y => decide (y < 128)) = true) : MeetsIn prog w («str.translate» ⟨[.str ⟨x.toArray⟩ t, .ref d], []⟩) (fun A R s =>
    A.handled = none ∧ M37 prog w s.heap d ∧ ∀ (v : Value) (h' : Heap) (k : Nat), (∀ b o, s.heap.get? b = some o → h'.get? b = some o) → (∃ t', v = .str ⟨(x.filter (· != 37)).toArray⟩ t') → R (.ok (.ret v)) { s with heap := h', toks := k }) := by
  refine .of_wp fun A R s h => ?_
  obtain ⟨hh, hm, h⟩ := h
  have hh1 : A.in1.handled = none := hh
  have hlen : (⟨x.toArray⟩ : Str).length = x.length := by show x.toArray.size = _; simp
  show wpAny _ _ (if ((⟨x.toArray⟩ : Str).length == 0) = true then (do rule "str.translate.empty"; ret (.str ⟨x.toArray⟩ t)) else (do
    let st ← forIn x.toArray (([], 0, x.toArray.all fun y => decide (y < 128), [], false) : List Str × Nat × Bool × List (Nat × Option Nat) × Bool) _
    _)) _ _ s
  by_cases h0 : ((⟨x.toArray⟩ : Str).length == 0) = true
  · rw [if_pos h0]
    have hx : x = [] := by
      rw [beq_iff_eq, hlen] at h0
      exact List.eq_nil_of_length_eq_zero h0
    subst hx
    exact wpAny_bind (wpAny_rule (wpAny_pure ⟨_, rfl, h _ s.heap s.toks (fun _ _ e => e) ⟨t, rfl⟩⟩))
  · rw [if_neg h0, hf]
    refine wpAny_bind (MeetsSeq2.wpAny_forIn_array _ (At37 x s) _ (fun c rest st s' hI => ?turn) (fun st s' hI => ?fin) x.toArray ([], 0, true, [], false) ?h0)
    case h0 =>
      refine ⟨[], [], [], 0, s.heap, s.toks, ?_, Nat.le_refl _, rfl, rfl, fun c a z => ?_, rfl, fun _ _ e => e⟩
      · rw [List.nil_append]
      · rw [List.lookup_nil] at z
        cases z
    case turn =>
      obtain ⟨past, pieces, known, n, h', k, e1, en, e2, e3, e4, e5, e6⟩ := hI
      subst e2
      subst e5
      have hpl : n ≤ 1000000 := by
        have q := congrArg List.length e1
        rw [List.length_append] at q
        omega
      have hm' : M37 prog w ({ s with heap := h', toks := k } : Shared).heap d := m37_keeps hm e6
      show wpAny _ _ (if tooLong n = true then _ else (if true = true then _ else _)) _ _ _
      rw [show tooLong n = false from PyProof.Rows.short24 (by omega), if_neg Bool.false_ne_true]
      rw [if_pos rfl]
      cases hl : List.lookup c known with
      | some a =>
        have ha := e4 c a hl
        by_cases hc : c = 37
        · have ha' : a = none := by rw [ha]; exact if_pos hc
          subst ha'
          refine wpAny_bind (wpAny_pure ?_)
          exact wpAny_pure (At37.drop hc e1 en e3 e4 e6)
        · have ha' : a = some c := by rw [ha]; exact if_neg hc
          subst ha'
          refine wpAny_bind (wpAny_pure ?_)
          exact wpAny_pure (At37.keep hc e1 en e3 e4 e6)
      | none =>
        have new : ∀ b, b = one37 c → ∀ c' a, List.lookup c' ((c, b) :: known) = some a → a = one37 c' := fun b hb c' a z => by
          rcases PySem.lookup_new z with ⟨q1, q2⟩ | q
          · rw [q2, hb, q1]
          · exact e4 c' a q
        refine wpAny_bind (tl37 hh1 hd hm' (fun hc k2 => ?_) (fun hc h2 k2 k3 => ?_))
        · refine wpAny_bind (wpAny_pure ?_)
          refine wpAny_pure ?_
          exact At37.drop (k := k2) (known := (c, none) :: known) hc e1 en e3 (new none (by rw [one37, if_pos hc])) e6
        · refine wpAny_bind (wpAny_pure ?_)
          refine wpAny_pure ?_
          exact At37.keep (k := k2) (known := (c, some c) :: known) hc e1 en e3 (new (some c) (by rw [one37, if_neg hc])) (fun b o z => k3 b o (e6 b o z))
    case fin =>
      obtain ⟨past, pieces, known, n, h', k, e1, en, e2, e3, e4, e5, e6⟩ := hI
      subst e2
      subst e5
      have ex : x = past := by rw [e1, List.append_nil]
      show wpAny _ _ (if tooLong n = true then _ else retStr { cps := List.foldl (fun acc (p : Str) => acc ++ p.cps) #[] pieces.reverse }) _ _ _
      rw [show tooLong n = false from PyProof.Rows.short24 (by rw [← ex] at en; omega), if_neg Bool.false_ne_true, e3, pieces37, ← ex]
      have ev : (⟨#[] ++ (x.filter (· != 37)).toArray⟩ : Str) = ⟨(x.filter (· != 37)).toArray⟩ := by
        rw [Array.empty_append]
      rw [ev]
      refine wpAny_bind (wpAny_mkStr (wpAny_pure ⟨_, rfl, h _ h' _ e6 ⟨_, rfl⟩⟩) ?_)
      show (x.filter (· != 37)).toArray.size ≤ sizeLine
      have hfl : (x.filter (· != 37)).length ≤ x.length := List.length_filter_le ..
      rw [sizeLine_eq]; simp; omega
end PyI.Tr
namespace PyI
open PySem L2
def rTr37 : V → List V → Hp → VK → Prop := fun x xs H Q => ∃ (z : Str) (d : Addr), x = .str z ∧ xs = [.ref d] ∧ H d = some (.dK [(.inl 37, .non)]) ∧ z.length ≤ 1000000 ∧ z.cps.all (· < 128) = true ∧ Q (.str (tr37S z)) H
theorem mt_tr37 {X : Cx} (hc : X.calm = true) : MtR X "str.translate" rTr37 := by
  intro pins s σ H x xs v us Q I rx rs h
  obtain ⟨a, d, rfl, rfl, hd, h3, hf, h⟩ := h
  obtain ⟨t, rfl⟩ := rx
  cases rs with
  | cons r1 rs =>
    cases rs
    cases r1
    obtain ⟨_, low, vs, kv, dd⟩ := dk_of I.hok hd
    have dd' : Tr.M37 X.prog X.w s.heap d := by
      cases kv with
      | cons p kv =>
        cases kv
        rename_i q
        obtain ⟨q1, q2⟩ := q
        obtain ⟨p1, p2⟩ := p
        cases p1
        cases (show q2 = Value.none from p2)
        exact dd
    obtain ⟨⟨l⟩⟩ := a
    refine call_meetsIn F.slot_str_translate (typeIs_str _ _ _) F.entry_str_translate (F.args_str_translate_2 _ _) (Tr.meets37 l t d low (by have h3' : (l.toArray).size ≤ 1000000 := h3; simpa using h3') hf) ⟨I.ok.hd hc, dd', ?_⟩
    intro v h' k hk ⟨t', e⟩
    subst e
    refine ⟨.str _, H, I.kept (t' := k) hk, ⟨t', rfl⟩, ?_⟩
    have e : tr37S ⟨l.toArray⟩ = ⟨(l.filter (· != 37)).toArray⟩ := by unfold tr37S; rfl
    rw [e] at h
    exact h
end PyI
/-! A5: built-in calls, methods, subscripts by values. -/
namespace PyI
open PySem L2
section
variable {X : Cx} {ct : CTab} {K : PySem.W.Frag} {H : Hp} {M : AM} {μ : Mu} {x y z v : V} {d d' : D} {xs : List V} {ds : List D} {Q : VK} {W : XK}

def tyN : Ty → String
  | .str => "str" | .int => "int" | .bool => "bool" | .tuple => "tuple" | .list => "list"
theorem tyx_t {a : Addr} {xs : List V} (h : SqT K H a xs) : TyX K H (.ref a) (.type "tuple") := by
  rcases h with (h | ⟨o, h⟩) | ⟨o, its, n, h1, h2, _⟩
  · exact .base (.tup h)
  · exact .fTuple h
  · exact .kTuple h1 h2
theorem tyx_l {a : Addr} {xs : List V} (h : SqL K H a xs) : TyX K H (.ref a) (.type "list") := by
  rcases h with (h | ⟨o, h⟩) | ⟨o, its, n, h1, h2, _⟩
  · exact .base (.lst h)
  · exact .base (.frz h)
  · exact .kList h1 h2
theorem isi_ok {t : Ty} (R : RelH X.K ct H μ M) (rx : Rep X.K H M x d) (h : Ok X.K ct (RD X.K) M H (isiD d t μ) Q W) : wC X (.builtin "isinstance") [x, .ty (tyN t)] H Q := by
  have go : ∀ {tn : String} {b : Bool}, TyX X.K H x (.type tn) → kitB tn (tyN t) = some b → Q (.bl b) H → wC X (.builtin "isinstance") [x, .ty (tyN t)] H Q :=
    fun ty k q => wc call_isi ⟨x, _, _, _, _, rfl, .ty _, ty, kit_ty k, q⟩
  cases rx with
  | non => exact go (.base .non) (by cases t <;> decide) (h.ret R (.bl _))
  | bl b => exact go (.base (.bl b)) (by cases t <;> decide) (h.ret R (.bl _))
  | int i => exact go (.base (.int i)) (by cases t <;> decide) (h.ret R (.bl _))
  | str s => exact go (.base (.str s)) (by cases t <;> decide) (h.ret R (.bl _))
  | tup h1 r1 => exact go (tyx_t h1.sq) (by cases t <;> decide) (h.ret R (.bl _))
  | lst h1 r1 => exact go (tyx_l h1.sq) (by cases t <;> decide) (h.ret R (.bl _))
  | ref ha =>
    unfold isiD at h
    simp only at h
    split at h
    · rename_i l hl
      obtain ⟨xs, h1, r1⟩ := R.lst hl ha
      exact go (.base (.lst h1)) (by cases t <;> decide) (h.ret R (.bl _))
    · exact h.elim

theorem reps1 (r : Reps K H M xs [d]) : ∃ x, xs = [x] ∧ Rep K H M x d := Reps.one_inv r
theorem reps2 (r : Reps K H M xs [d, d']) : ∃ x y, xs = [x, y] ∧ Rep K H M x d ∧ Rep K H M y d' := by
  cases r with
  | cons h r => obtain ⟨y, rfl, h'⟩ := reps1 r; exact ⟨_, _, rfl, h, h'⟩
theorem reps0 (r : Reps K H M xs []) : xs = [] := by cases r; rfl
/-- a new tuple, a new list -/
theorem Ok.newT {ds : List D} (h : Ok K ct (RD K) M H (.ok (.tup ds) μ) Q W) (R : RelH K ct H μ M) (r : Reps K H M xs ds) {p : Addr} (hp : H p = none) : Q (.ref p) (upd H p (.tup xs)) :=
  h _ _ M (Evo.new hp) (R.new hp) (.tup (.inl ⟨.inl upd_same, R.fresh hp⟩) (r.evo (Evo.new hp)))
theorem Ok.newL {ds : List D} (h : Ok K ct (RD K) M H (.ok (.lst ds) μ) Q W) (R : RelH K ct H μ M) (r : Reps K H M xs ds) {p : Addr} (hp : H p = none) : Q (.ref p) (upd H p (.lst xs)) :=
  h _ _ M (Evo.new hp) (R.new hp) (.lst (.inl ⟨.inl upd_same, R.fresh hp⟩) (r.evo (Evo.new hp)))

theorem seqL_of (R : RelH K ct H μ M) (r : Rep K H M x d) {l : List D} (h : seqD μ d = some l) (hn : ∀ t, d = .tup t → False) : ∃ a xs, x = .ref a ∧ SqL K H a xs ∧ Reps K H M xs l := by
  cases r with
  | tup h1 r1 => exact (hn _ rfl).elim
  | lst h1 r1 => cases h; exact ⟨_, _, rfl, h1.sq, r1⟩
  | ref ha =>
    unfold seqD at h
    simp only at h
    split at h
    · rename_i l' hl
      cases h
      obtain ⟨xs, h1, r1⟩ := R.lst hl ha
      exact ⟨_, _, rfl, .inl (.inl h1), r1⟩
    · cases h
  | non => cases h
  | bl => cases h
  | int => cases h
  | str => cases h
def bifV : Bif → Value
  | .len => .builtin "len" | .int => .type "int" | .str => .type "str" | .tuple => .type "tuple" | .list => .type "list"
  | .sorted => .builtin "sorted" | .min => .builtin "min" | .max => .builtin "max" | .sum => .builtin "sum" | .any => .builtin "any" | .all => .builtin "all"
  | .abs => .builtin "abs" | .ord => .builtin "ord" | .bool => .type "bool"
theorem bif_ok {b : Bif} (hc : X.calm = true) (R : RelH X.K ct H μ M) (r : Reps X.K H M xs ds) (h : Ok X.K ct (RD X.K) M H (bifD b ds μ) Q W) : wC X (bifV b) xs H Q := by
  unfold bifD at h
  split at h
  case h_1 s => obtain ⟨x, rfl, rx⟩ := reps1 r; cases rx; exact wc call_len_str ⟨s, rfl, sl16 h.needs.1, h.needs.2.ret R (.int _)⟩
  case h_2 =>
    obtain ⟨x, rfl, rx⟩ := reps1 r
    split at h
    · rename_i l hl
      obtain ⟨a, xs, rfl, hs, rs⟩ := seq_of R rx hl
      refine wc call_len_seq ⟨a, xs, rfl, hs, ?_⟩
      rw [rs.length]; exact h.ret R (.int _)
    · exact h.elim
  case h_3 => obtain ⟨x, rfl, rx⟩ := reps1 r; cases rx; exact wc call_int1 (.inl ⟨_, rfl, h.ret R (.int _)⟩)
  case h_4 => obtain ⟨x, rfl, rx⟩ := reps1 r; cases rx; exact wc call_int1 (.inr ⟨_, rfl, h.ret R (.int _)⟩)
  case h_5 =>
    obtain ⟨x, rfl, rx⟩ := reps1 r; cases rx
    split at h
    · rename_i n hn
      exact wc call_int_str ⟨_, n, rfl, hn, h.needs.1, h.needs.2.ret R (.int _)⟩
    · exact h.elim
  case h_6 => obtain ⟨x, rfl, rx⟩ := reps1 r; cases rx; exact wc call_str_int ⟨_, rfl, h.needs.1, h.needs.2.ret R (.str _)⟩
  case h_7 => obtain ⟨x, rfl, rx⟩ := reps1 r; cases rx; exact wc call_abs ⟨_, rfl, h.ret R (.int _)⟩
  case h_8 => obtain ⟨x, y, rfl, rx, ry⟩ := reps2 r; cases rx; cases ry; exact wc (call_max2 hc) ⟨_, _, rfl, h.ret R (.int _)⟩
  case h_9 => obtain ⟨x, y, rfl, rx, ry⟩ := reps2 r; cases rx; cases ry; exact wc (call_min2 hc) ⟨_, _, rfl, h.ret R (.int _)⟩
  case h_10 =>
    obtain ⟨x, rfl, rx⟩ := reps1 r
    cases rx with
    | tup h1 r1 => exact wc call_tuple_of ⟨_, _, rfl, .inr ⟨h1.sq, h.ret R (.tup h1 r1)⟩⟩
  case h_11 hn =>
    obtain ⟨x, rfl, rx⟩ := reps1 r
    split at h
    · rename_i l hl
      obtain ⟨a, xs, rfl, hs, rs⟩ := seqL_of R rx hl hn
      exact wc call_tuple_of ⟨a, xs, rfl, .inl ⟨hs, fun p hp => h.newT R rs hp⟩⟩
    · exact h.elim
  case h_12 =>
    obtain ⟨x, rfl, rx⟩ := reps1 r
    split at h
    · rename_i l hl
      obtain ⟨a, xs, rfl, hs, rs⟩ := seq_of R rx hl
      exact wc call_list_of ⟨a, xs, rfl, hs, fun p hp => h.newL R rs hp⟩
    · exact h.elim
  case h_13 s => obtain ⟨x, rfl, rx⟩ := reps1 r; cases rx; exact wc call_ord ⟨s, rfl, h.needs.1, h.needs.2.ret R (.int _)⟩
  case h_14 => exact h.elim

/-! ### methods -/
def metI : Met → String
  | .append => "list.append" | .join => "str.join" | .find => "str.find" | .isascii => "str.isascii" | .isprintable => "str.isprintable" | .split => "str.split"
  | .endswith => "str.endswith" | .startswith => "str.startswith" | .extend => "list.extend" | .pop => "list.pop" | .index => "str.index" | .isdigit => "str.isdigit" | .isalpha => "str.isalpha" | .islower => "str.islower"
def metT : Met → String
  | .append => "list" | .extend => "list" | .pop => "list"
  | _ => "str"
theorem strs_of : ∀ {xs : List V} {ds : List D} {ys : List Str}, Reps K H M xs ds → strsOf ds = some ys → xs = ys.map V.str
  | _, _, _, .nil, e => by cases e; rfl
  | _, _, ys, .cons h r, e => by
    cases h <;> unfold strsOf at e <;> simp only [Option.map_eq_some_iff, reduceCtorEq] at e
    obtain ⟨zs, hz, rfl⟩ := e
    rw [strs_of r hz]; rfl
theorem reps_strs : ∀ (ys : List Str), Reps K H M (ys.map V.str) (ys.map D.str)
  | [] => .nil
  | y :: ys => .cons (.str y) (reps_strs ys)
theorem met_ty {m : Met} {o : D} (R : RelH K ct H μ M) (rx : Rep K H M x o) (h : tyD m o μ = true) : tyV K (metT m) x H := by
  unfold tyD at h
  split at h
  case h_1 =>
    cases rx with
    | ref ha =>
      split at h
      · rename_i l hl
        obtain ⟨xs, h1, r1⟩ := R.lst hl ha
        exact .inl ⟨rfl, xs, .inl (.inl h1)⟩
      · cases h
  case h_5 => cases rx; unfold metT; split <;> first | rfl | (exfalso; simp_all; done) | trace_state
  all_goals cases h
theorem met_ok {m : Met} {o : D} (R : RelH X.K ct H μ M) (rx : Rep X.K H M x o) (r : Reps X.K H M xs ds) (h : Ok X.K ct (RD X.K) M H (metD m o ds μ) Q W) : wM X (metI m) x xs H Q := by
  unfold metD at h
  split at h
  case h_1 n d =>
    cases rx with
    | ref ha =>
      obtain ⟨y, rfl, ry⟩ := reps1 r
      split at h
      · rename_i l hl
        obtain ⟨zs, h1, r1⟩ := R.lst hl ha
        obtain ⟨hz, h⟩ := h.needs
        have em : Evo M H M (upd H _ (.lst (zs ++ [y]))) := Evo.mut (List.mem_of_getElem? ha)
        refine wm mt_append ⟨_, zs, y, rfl, rfl, h1, sl16' (by rw [r1.length]; exact hz), ?_⟩
        exact h _ _ M em (R.mut ha ⟨zs ++ [y], upd_same, (r1.evo em).append (Reps.one (ry.evo em))⟩) .non
      · exact h.elim
  case h_2 a d =>
    cases rx
    obtain ⟨y, rfl, ry⟩ := reps1 r
    split at h
    · rename_i ys hy
      obtain ⟨hz, h⟩ := h.needs
      obtain ⟨l, hl, hs⟩ := Option.bind_eq_some_iff.mp hy
      obtain ⟨p, xs, rfl, hq, rs⟩ := seq_of R ry hl
      have e := strs_of rs hs
      subst e
      exact wm mt_join ⟨_, p, ys, rfl, rfl, hq, hz, h.ret R (.str _)⟩
    · exact h.elim
  case h_3 => cases rx; obtain ⟨y, z, rfl, ry, rz⟩ := reps2 r; cases ry; cases rz; exact wm mt_find3 ⟨_, _, _, rfl, rfl, h.ret R (.int _)⟩
  case h_4 => cases rx; obtain ⟨y, rfl, ry⟩ := reps1 r; cases ry; exact wm mt_find ⟨_, _, rfl, rfl, h.ret R (.int _)⟩
  case h_5 => cases rx; cases reps0 r; exact wm mt_isascii ⟨_, rfl, rfl, trivial, h.ret R (.bl _)⟩
  case h_6 => cases rx; cases reps0 r; exact wm mt_isprintable ⟨_, rfl, rfl, trivial, h.ret R (.bl _)⟩
  case h_7 => cases rx; cases reps0 r; exact wm mt_isdigit ⟨_, rfl, rfl, trivial, h.ret R (.bl _)⟩
  case h_8 => cases rx; cases reps0 r; exact wm mt_isalpha ⟨_, rfl, rfl, trivial, h.ret R (.bl _)⟩
  case h_9 => cases rx; cases reps0 r; exact wm mt_islower ⟨_, rfl, rfl, trivial, h.ret R (.bl _)⟩
  case h_10 => cases rx; obtain ⟨y, rfl, ry⟩ := reps1 r; cases ry; exact wm mt_startswith ⟨_, _, rfl, rfl, h.ret R (.bl _)⟩
  case h_11 => cases rx; obtain ⟨y, rfl, ry⟩ := reps1 r; cases ry; exact wm mt_endswith ⟨_, _, rfl, rfl, h.ret R (.bl _)⟩
  case h_12 =>
    cases rx; obtain ⟨y, rfl, ry⟩ := reps1 r; cases ry
    obtain ⟨hz, h⟩ := h.needs
    refine wm mt_split ⟨_, _, rfl, rfl, beq_eq_false_iff_ne.mpr hz.1, sl16 hz.2, fun p hp => ?_⟩
    exact h.newL R (reps_strs _) hp
  case h_13 => exact h.elim

/-! ### subscripts -/
theorem idx_ok {i : D} (R : RelH X.K ct H μ M) (rx : Rep X.K H M x d) (ry : Rep X.K H M y i) (h : Ok X.K ct (RD X.K) M H (idxD d i μ) Q W) : rIx X.K x y H Q := by
  unfold idxD at h
  split at h
  case h_1 z k =>
    cases rx; cases ry
    split at h
    · rename_i c hc
      exact .inr (.inr ⟨_, _, c, rfl, rfl, sl16 h.needs.1, hc, h.needs.2.ret R (.str _)⟩)
    · exact h.elim
  case h_2 k hn =>
    cases ry
    split at h
    · rename_i l hl
      obtain ⟨a, xs, rfl, hs, rs⟩ := seq_of R rx hl
      split at h
      · rename_i e he
        have : ∃ v, atI xs k = some v ∧ Rep X.K H M v e := by
          unfold atI at he ⊢
          obtain ⟨j, hj, hd⟩ := Option.bind_eq_some_iff.mp he
          obtain ⟨v, hv, rv⟩ := rs.get hd
          rw [rs.length]
          exact ⟨v, Option.bind_eq_some_iff.mpr ⟨j, hj, hv⟩, rv⟩
        obtain ⟨v, hv, rv⟩ := this
        rcases hs with hs | hs
        · exact .inl ⟨a, xs, _, v, rfl, rfl, hs, hv, h.ret R rv⟩
        · exact .inr (.inl ⟨a, xs, _, v, rfl, rfl, hs, hv, h.ret R rv⟩)
      · exact h.elim
    · exact h.elim
  case h_3 => exact h.elim
abbrev rSl (K : PySem.W.Frag) : V → Option Int → Option Int → Hp → VK → Prop := fun x lo hi H Q => (rSlS x lo hi H Q ∨ rSlL K x lo hi H Q) ∨ rSlT K x lo hi H Q
theorem sl_any : SlR X (rSl X.K) := (sl_str.or sl_list).or sl_tup
theorem cut_reps {lo hi : Option Int} {l : List D} (r : Reps K H M xs l) : Reps K H M (cutV xs lo hi) (cutD l lo hi) := by
  unfold cutV cutD
  rw [r.length]
  exact (r.dropL _).takeL _
theorem slc_ok {lo hi : Option Int} (R : RelH X.K ct H μ M) (rx : Rep X.K H M x d) (h : Ok X.K ct (RD X.K) M H (slcD d lo hi μ) Q W) : rSl X.K x lo hi H Q := by
  cases rx with
  | str z =>
    obtain ⟨hz, h⟩ := (show Ok X.K ct (RD X.K) M H (needs (z.length ≤ 16777216) (.ok (.str (cutS z lo hi)) μ)) Q W from h).needs
    exact .inl (.inl ⟨z, rfl, sl16 hz, h.ret R (.str _)⟩)
  | lst h1 r1 => exact .inl (.inr ⟨_, _, rfl, h1.sq, fun p hp => Ok.newL (μ := μ) h R (cut_reps r1) hp⟩)
  | tup h1 r1 =>
    rename_i l
    obtain ⟨hz, h⟩ := (show Ok X.K ct (RD X.K) M H (needs (¬ (HT.sIx l.length 0 lo = 0 ∧ HT.sIx l.length l.length hi = l.length)) (.ok (.tup (cutD l lo hi)) μ)) Q W from h).needs
    exact .inr ⟨_, _, rfl, h1.sq, by rw [r1.length]; exact hz, fun p hp => h.newT R (cut_reps r1) hp⟩
  | ref ha =>
    unfold slcD at h
    simp only at h
    split at h
    · rename_i l hl
      obtain ⟨xs, h1, r1⟩ := R.lst hl ha
      exact .inl (.inr ⟨_, _, rfl, .inl (.inl h1), fun p hp => h.newL R (cut_reps r1) hp⟩)
    · exact h.elim
  | non => exact h.elim
  | bl => exact h.elim
  | int => exact h.elim
end
end PyI
/-! A6: from the syntax to the resolved syntax. -/
namespace PyI
open PySem L2

structure RC where
  N : List Str
  tb : Tb
def ixOf {α : Type} [DecidableEq α] (x : α) : List α → Option Nat
  | [] => none
  | y :: ys => if x = y then some 0 else (ixOf x ys).map (· + 1)
theorem ixOf_get {α : Type} [DecidableEq α] {x : α} : ∀ {l : List α} {i : Nat}, ixOf x l = some i → l[i]? = some x
  | [], _, h => by cases h
  | y :: ys, i, h => by
    unfold ixOf at h
    by_cases e : x = y
    · rw [if_pos e] at h; cases h; subst e; rfl
    · rw [if_neg e] at h
      obtain ⟨j, hj, rfl⟩ := Option.map_eq_some_iff.mp h
      simpa using ixOf_get hj
/-- a def of the table: its number and how many arguments it takes -/
def fnOf (x : Str) : List (Str × Nat) → Option (Nat × Nat)
  | [] => none
  | (y, n) :: ys => if x = y then some (0, n) else (fnOf x ys).map fun p => (p.1 + 1, p.2)
theorem fnOf_get {x : Str} : ∀ {l : List (Str × Nat)} {i n : Nat}, fnOf x l = some (i, n) → l[i]? = some (x, n)
  | [], _, _, h => by cases h
  | (y, k) :: ys, i, n, h => by
    unfold fnOf at h
    by_cases e : x = y
    · rw [if_pos e] at h; cases h; subst e; rfl
    · rw [if_neg e] at h
      obtain ⟨⟨j, m⟩, hj, q⟩ := Option.map_eq_some_iff.mp h
      cases q
      simpa using fnOf_get hj
def okName (x : Str) : Bool := !(x == ("__debug__" : Str)) && !(x == ("__classdict__" : Str)) && !(x == ("__name__" : Str))
def visB (sc : Scope) (x : Str) : Bool := match sc.names.lookup x with
  | some .local => true
  | some .cell => true
  | some .free => true
  | _ => false
def glB (sc : Scope) (x : Str) : Bool := match sc.names.lookup x with
  | some .globalImplicit => true
  | _ => false
def star : Expr → Bool
  | .Starred _ _ => true
  | _ => false
def isSlc : Expr → Bool
  | .Slice _ _ none _ => true
  | _ => false
def isSet : Expr → Bool
  | .Set _ _ _ => true
  | _ => false
/-- isTrue reads it by its value's truth -/
def plainT : Expr → Bool
  | .UnaryOp .Not _ _ => false
  | .BoolOp _ _ _ => false
  | .IfExp _ _ _ _ => false
  | .Compare _ _ _ _ => false
  | _ => true
def plainO : Expr → Bool
  | .Call (.Name id _) [] [] _ => id != ("super" : Str)
  | _ => true
def bopOf : Operator → Option Bop
  | .Add => some .add | .Sub => some .sub | .Mult => some .mul | .FloorDiv => some .fdiv | .Mod => some .mod | .Pow => some .pow
  | .LShift => some .shl | .RShift => some .shr | .BitAnd => some .band | .BitOr => some .bor | .BitXor => some .bxor | _ => none
def bifOf (x : Str) : Option Bif :=
  if x = "len" then some .len else if x = "int" then some .int else if x = "str" then some .str else if x = "tuple" then some .tuple else if x = "list" then some .list else
  if x = "abs" then some .abs else if x = "max" then some .max else if x = "min" then some .min else if x = "ord" then some .ord else none
def tyOf (x : Str) : Option Ty :=
  if x = "str" then some .str else if x = "int" then some .int else if x = "bool" then some .bool else if x = "tuple" then some .tuple else if x = "list" then some .list else none
def metOf (x : Str) : Option Met :=
  if x = "append" then some .append else if x = "join" then some .join else if x = "find" then some .find else if x = "isascii" then some .isascii else if x = "isprintable" then some .isprintable else
  if x = "split" then some .split else if x = "isdigit" then some .isdigit else if x = "isalpha" then some .isalpha else if x = "islower" then some .islower else
  if x = "startswith" then some .startswith else if x = "endswith" then some .endswith else none
def guardO {α : Type} (b : Bool) (o : Option α) : Option α := if b then o else none
theorem guardO_some {α : Type} {b : Bool} {o : Option α} {a : α} (h : guardO b o = some a) : b = true ∧ o = some a := by
  unfold guardO at h
  cases b with
  | true => exact ⟨rfl, h⟩
  | false => cases h
def ownOf (N : List Str) (sc : Scope) : List (Str × Nat) := sc.names.filterMap fun p => match p.2 with
  | .local => (ixOf p.1 N).map fun i => (p.1, i)
  | .cell => (ixOf p.1 N).map fun i => (p.1, i)
  | _ => none
/-- targets: names, tuples of names -/
def resNames (N : List Str) (loc : List Str) : List Expr → Option (List Nat)
  | [] => some []
  | .Name x _ :: es => guardO (decide (x ∈ loc)) ((ixOf x N).bind fun i => (resNames N loc es).map (i :: ·))
  | _ => none
def resTg (N : List Str) (loc : List Str) : Expr → Option Tg
  | .Name x _ => guardO (decide (x ∈ loc)) ((ixOf x N).map Tg.nm)
  | .Tuple es _ _ => (resNames N loc es).map Tg.tp
  | _ => none
def slotsOf : Tg → List Nat
  | .nm i => [i]
  | .tp l => l
def litTab : List (Option Expr) → List Expr → Bool
  | [some (.Constant (.int 37) _ _)], [.Constant .none _ _] => true
  | _, _ => false
def isiArgs : List Expr → Option (Expr × Str)
  | [a, .Name t _] => some (a, t)
  | _ => none
theorem isiArgs_eq {args : List Expr} {q : Expr × Str} (h : isiArgs args = some q) : ∃ p, args = [q.1, .Name q.2 p] := by
  unfold isiArgs at h
  split at h
  · cases h; exact ⟨_, rfl⟩
  · cases h
def trArgs : List Expr → Option (List (Option Expr) × List Expr)
  | [.Dict ks vs _] => some (ks, vs)
  | _ => none
theorem trArgs_eq {args : List Expr} {q : List (Option Expr) × List Expr} (h : trArgs args = some q) : ∃ p, args = [.Dict q.1 q.2 p] := by
  unfold trArgs at h
  split at h
  · cases h; exact ⟨_, rfl⟩
  · cases h
/-- a dict of the module -/
def dicOf (C : RC) (sc : Scope) : Expr → Option Nat
  | .Name x _ => guardO (okName x && glB sc x) (ixOf x C.tb.dics)
  | _ => none
theorem dicOf_eq {C : RC} {sc : Scope} {e : Expr} {g : Nat} (h : dicOf C sc e = some g) : ∃ x p, e = .Name x p ∧ okName x = true ∧ glB sc x = true ∧ C.tb.dics[g]? = some x := by
  unfold dicOf at h
  split at h
  · obtain ⟨h1, h⟩ := guardO_some h
    simp only [Bool.and_eq_true] at h1
    exact ⟨_, _, rfl, h1.1, h1.2, ixOf_get h⟩
  · cases h
def inOp : CmpOp → Option Bool
  | .In => some false
  | .NotIn => some true
  | _ => none
theorem inOp_eq {op : CmpOp} {b : Bool} (h : inOp op = some b) : op = if b then .NotIn else .In := by
  cases op <;> simp [inOp] at h <;> subst h <;> rfl
mutual
def resE : Nat → RC → Scope → Expr → Option E
  | 0, _, _, _ => none
  | n + 1, C, sc, e => match e with
    | .Constant (.int i) _ _ => some (.cst (.int i))
    | .Constant (.bool b) _ _ => some (.cst (.bl b))
    | .Constant .none _ _ => some (.cst .non)
    | .Constant (.str s) _ _ => some (.cst (.str s))
    | .Name x _ => guardO (okName x) (if visB sc x then (ixOf x C.N).map E.var else guardO (glB sc x) ((ixOf x C.tb.cons).map E.glob))
    | .BinOp a op b _ => (bopOf op).bind fun o => (resE n C sc a).bind fun A => (resE n C sc b).map fun B => .bin o A B
    | .UnaryOp .USub a _ => (resE n C sc a).map .neg
    | .UnaryOp .Not a _ => (resE n C sc a).map fun A => .notv (.val A)
    | .BoolOp .And vs _ => resAnd n C sc vs
    | .BoolOp .Or vs _ => resOr n C sc vs
    | .Compare a [op] [b] _ => (match dicOf C sc b with
        | some g => (inOp op).bind fun neg => (resE n C sc a).map fun A => .gin neg g A
        | none => guardO (!isSet b) ((resE n C sc a).bind fun A => (resE n C sc b).map fun B => .cmp (copOf op) A B))
    | .Compare a [op, op'] [b, c] _ => guardO (!isSet b && !isSet c) ((resE n C sc a).bind fun A => (resE n C sc b).bind fun B => (resE n C sc c).map fun D => .chn (copOf op) (copOf op') A B D)
    | .IfExp c a b _ => (resT n C sc c).bind fun T => (resE n C sc a).bind fun A => (resE n C sc b).map fun B => .ite T A B
    | .Call (.Name f _) args [] _ => guardO (okName f && glB sc f) (match fnOf f C.tb.fns with
        | some (i, k) => guardO (args.length == k && !args.isEmpty) ((resEs n C sc args).map (.call i))
        | none => if f = "isinstance" then (isiArgs args).bind fun p => guardO (okName p.2 && glB sc p.2 && !star p.1) ((tyOf p.2).bind fun ty => (resE n C sc p.1).map fun A => .isi A ty) else guardO (!args.isEmpty) ((bifOf f).bind fun b => (resEs n C sc args).map (.bif b)))
    | .Call (.Attribute o m apos) args [] pos => guardO (plainO o && apos.endLine == pos.line) (if m = "translate" then (trArgs args).bind fun p => guardO (litTab p.1 p.2) ((resE n C sc o).map .tr37) else guardO (decide (args.length < 30)) ((metOf m).bind fun t => (resE n C sc o).bind fun A => (resEs n C sc args).map (.met t A)))
    | .Subscript a (.Slice lo hi none _) _ => (resE n C sc a).bind fun A => (resO n C sc lo).bind fun L => (resO n C sc hi).map fun U => .slc A L U
    | .Subscript a b _ => guardO (!isSlc b) (match dicOf C sc a with
      | some g => (resE n C sc b).map fun B => .gdict g B
      | none => (resE n C sc a).bind fun A => (resE n C sc b).map fun B => .idx A B)
    | .Tuple es _ _ => (resEs n C sc es).map .tup
    | .List es _ => (resEs n C sc es).map .lst
    | .ListComp elt [⟨tg, iter, ifs, 0⟩] scope _ =>
      let own : List (Str × Nat) := ownOf C.N scope
      guardO (blkC C.N sc scope own && !isSet iter) ((resTg C.N (own.map Prod.fst) tg).bind fun t => guardO ((slotsOf t).all fun i => decide (i ∈ own.map Prod.snd)) ((resI n C sc iter).bind fun it =>
        (match ifs with
          | [] => some T.yes
          | [c] => resT n C (relS scope sc) c
          | _ => none).bind fun c => (resE n C (relS scope sc) elt).map fun e => .comp (own.map Prod.snd) t it c e))
    | _ => none
def resAnd : Nat → RC → Scope → List Expr → Option E
  | 0, _, _, _ => none
  | n + 1, C, sc, es => match es with
    | [a] => resE n C sc a
    | a :: b :: r => (resE n C sc a).bind fun A => (resAnd n C sc (b :: r)).map fun B => .and A B
    | [] => none
def resOr : Nat → RC → Scope → List Expr → Option E
  | 0, _, _, _ => none
  | n + 1, C, sc, es => match es with
    | [a] => resE n C sc a
    | a :: b :: r => (resE n C sc a).bind fun A => (resOr n C sc (b :: r)).map fun B => .or A B
    | [] => none
def resEs : Nat → RC → Scope → List Expr → Option Es
  | 0, _, _, _ => none
  | n + 1, C, sc, es => match es with
    | [] => some .nil
    | e :: r => guardO (!star e) ((resE n C sc e).bind fun A => (resEs n C sc r).map (.cons A))
def resO : Nat → RC → Scope → Option Expr → Option O
  | 0, _, _, _ => none
  | n + 1, C, sc, o => match o with
    | none => some .none
    | some e => (resE n C sc e).map .some
def resT : Nat → RC → Scope → Expr → Option T
  | 0, _, _, _ => none
  | n + 1, C, sc, e => match e with
    | .UnaryOp .Not a _ => (resT n C sc a).map .not
    | .BoolOp .And vs _ => resTAnd n C sc vs
    | .BoolOp .Or vs _ => resTOr n C sc vs
    | .Compare a [op] [b] _ => (match dicOf C sc b with
        | some g => (inOp op).bind fun neg => (resE n C sc a).map fun A => .val (.gin neg g A)
        | none => guardO (!isSet b) ((resE n C sc a).bind fun A => (resE n C sc b).map fun B => .val (.cmp (copOf op) A B)))
    | .Compare a [op, op'] [b, c] _ => guardO (!isSet b && !isSet c) ((resE n C sc a).bind fun A => (resE n C sc b).bind fun B => (resE n C sc c).map fun D => .val (.chn (copOf op) (copOf op') A B D))
    | e => guardO (plainT e) ((resE n C sc e).map .val)
def resTAnd : Nat → RC → Scope → List Expr → Option T
  | 0, _, _, _ => none
  | n + 1, C, sc, es => match es with
    | [a] => resT n C sc a
    | a :: b :: r => (resT n C sc a).bind fun A => (resTAnd n C sc (b :: r)).map fun B => .and A B
    | [] => none
def resTOr : Nat → RC → Scope → List Expr → Option T
  | 0, _, _, _ => none
  | n + 1, C, sc, es => match es with
    | [a] => resT n C sc a
    | a :: b :: r => (resT n C sc a).bind fun A => (resTOr n C sc (b :: r)).map fun B => .or A B
    | [] => none
def resI : Nat → RC → Scope → Expr → Option IT
  | 0, _, _, _ => none
  | n + 1, C, sc, e => match e with
    | .Call (.Name f _) args [] _ => if f = "range" then guardO (glB sc f) (match args with
        | [a] => guardO (!star a) ((resE n C sc a).map .rng1)
        | [a, b] => guardO (!star a && !star b) ((resE n C sc a).bind fun A => (resE n C sc b).map fun B => .rng2 A B)
        | _ => none) else (resE n C sc e).map .seq
    | e => guardO (!isSet e) ((resE n C sc e).map .seq)
end
end PyI
/-! A7: expressions: each form by itself. -/
namespace PyI
open PySem L2

/-! ### the forms -/
section
variable {env : Env} {e a b o : Expr} {es : List Expr}
theorem star_cons (h : star e = false) : starEach (e :: es) env = (false, eval e env) :: starEach es env := by
  cases e <;> first | rfl | (simp [star] at h)
theorem star_nil : starEach [] env = [] := rfl
theorem star_all {pos : Pos} : ∀ {es : List Expr}, es.all (fun e => !star e) = true → (backTo pos (starEach es env)).any (·.1) = false
  | [], _ => rfl
  | e :: es, h => by
    simp only [List.all_cons, Bool.and_eq_true, Bool.not_eq_true'] at h
    rw [star_cons h.1]
    have ih := star_all (pos := pos) h.2
    show (false || (backTo pos (starEach es env)).any (·.1)) = false
    rw [ih]; rfl
theorem star_all' {pos : Pos} : ∀ {es : List Expr}, es.all (fun e => !star e) = true → (backTo pos (starEach es env)).all (fun x => !x.1) = true
  | [], _ => rfl
  | e :: es, h => by
    simp only [List.all_cons, Bool.and_eq_true, Bool.not_eq_true'] at h
    rw [star_cons h.1]
    have ih := star_all' (pos := pos) h.2
    show (true && (backTo pos (starEach es env)).all (fun x => !x.1)) = true
    rw [ih]; rfl
theorem true_plain (h : plainT e = true) (whole : Sem Value) : isTrue e env whole = (do let v ← whole; standAt e.pos; holding [v] (truthy v)) := by
  cases e <;> first | rfl | (simp [plainT] at h; done) | skip
  rename_i op x pos
  cases op <;> first | rfl | (simp [plainT] at h)
theorem slc_plain (h : isSlc b = false) (x y : Value) : subscripted b false x y = operate [x, y] (getItem x y) := by
  cases b <;> first | rfl | skip
  rename_i l u s p
  cases s with
  | none => simp [isSlc] at h
  | some s => rfl
theorem base_plain {m : Str} (h : plainO o = true) : attributeBase o m env (eval o env) = eval o env := by
  unfold attributeBase
  split
  · rename_i id p pos
    have h' : id ≠ ("super" : Str) := by simpa [plainO] using h
    have e : (id != ("super" : Str)) = true := by simpa using h'
    simp only [e, Bool.true_or, if_true]
  · rfl
theorem set_marks {op : CmpOp} (h : isSet b = false) : behindInMarks op b = false := by
  cases b <;> first | rfl | (simp [isSet] at h)
theorem set_last {op op' : CmpOp} {c : Expr} (h : isSet c = false) : lastMarks [op, op'] [b, c] = false := by
  show lastMarks [op'] [c] = false
  exact set_marks h
theorem set_iter (h : isSet e = false) (x : Value) : foldedSetIterable e env x = pure x := by
  cases e <;> first | rfl | (simp [isSet] at h)
end

mutual
theorem beq_eq : ∀ (a b : D), D.beq a b = true → a = b
  | .non, b, h => by cases b <;> first | rfl | (simp [D.beq] at h)
  | .bl a, b, h => by cases b <;> first | (simp [D.beq] at h; done) | (rw [show a = _ from by simpa [D.beq] using h])
  | .int a, b, h => by cases b <;> first | (simp [D.beq] at h; done) | (rw [show a = _ from by simpa [D.beq] using h])
  | .str a, b, h => by cases b <;> first | (simp [D.beq] at h; done) | (rw [show a = _ from by simpa [D.beq] using h])
  | .ref a, b, h => by cases b <;> first | (simp [D.beq] at h; done) | (rw [show a = _ from by simpa [D.beq] using h])
  | .tup a, b, h => by
    cases b with
    | tup b => rw [beqs_eq a b (by simpa only [D.beq] using h)]
    | _ => simp [D.beq] at h
  | .lst a, b, h => by
    cases b with
    | lst b => rw [beqs_eq a b (by simpa only [D.beq] using h)]
    | _ => simp [D.beq] at h
theorem beqs_eq : ∀ (a b : List D), D.beqs a b = true → a = b
  | [], b, h => by cases b <;> first | rfl | (simp [D.beqs] at h)
  | x :: xs, b, h => by
    cases b with
    | nil => simp [D.beqs] at h
    | cons y ys =>
      simp only [D.beqs, Bool.and_eq_true] at h
      rw [beq_eq x y h.1, beqs_eq xs ys h.2]
end
end PyI
/-! A8: expressions, form by form. -/
namespace PyI
open PySem L2

def SndO (X : Cx) (ct : CTab) (Γ : G) (o : Option Expr) (A : O) : Prop := ∃ t : TO, PO X o t ∧ ∀ (W : WX) (ρ : Rho) (μ : Mu) (σ : St) (H : Hp) (M : AM) (Q : Option Int → Hp → Prop), Takes X W → RelE X.K H M σ ρ → RelH X.K ct H μ M →
  Ok X.K ct RO M H (evalO Γ A ρ μ) Q (fun c d H' => W c d σ H') → t σ H Q
def wW (X : Cx) (e : Expr) : TT := fun σ H Q => ∀ whole pins s, Inv X pins σ H s → wpAny (model X.prog X.w) X.A (isTrue e X.env whole) (TP X pins σ Q) X.xe s
theorem pW {X : Cx} {e : Expr} : PW X e (wW X e) := ⟨fun whole pins s _ _ _ I h => h whole pins s I⟩
theorem ww {X : Cx} {e : Expr} {t : TT} {σ : St} {H : Hp} {Q : Bool → Hp → Prop} (p : PW X e t) (h : t σ H Q) : wW X e σ H Q := fun whole pins s I => p.run whole pins s σ H Q I h
def SndW (X : Cx) (ct : CTab) (Γ : G) (e : Expr) (A : T) : Prop := ∀ (W : WX) (ρ : Rho) (μ : Mu) (σ : St) (H : Hp) (M : AM) (Q : Bool → Hp → Prop), Takes X W → RelE X.K H M σ ρ → RelH X.K ct H μ M →
  Ok X.K ct RB M H (evalT Γ A ρ μ) Q (fun c d H' => W c d σ H') → wW X e σ H Q
section
variable {X : Cx} {ct : CTab} {Γ : G} {N : List Str} {sc : Scope} {tb : Tb} {e a b c o : Expr} {es args : List Expr} {A B C' : E} {As : Es} {pos apos : Pos} {j : Nat}
theorem snd_cst {v : V} {d : D} (p : PE X e (tC v)) (r : ∀ H M, Rep X.K H M v d) : Snd X ct Γ e (.cst d) := by
  intro W ρ μ σ H M Q tk E R h
  exact we p (Ok.ret (μ := μ) h R (r _ _))
theorem snd_var {i : Nat} {x : Str} (F : Fr X ct tb Γ N sc) (hi : N[i]? = some x) (hv : visB sc x = true) (hd : okName x = true) : Snd X ct Γ (.Name x pos) (.var i) := by
  intro W ρ μ σ H M Q tk E R h
  have hd' : (x == ("__debug__" : Str)) = false ∧ (x == ("__classdict__" : Str)) = false := by simp [okName] at hd ⊢; exact ⟨hd.1.1, hd.1.2⟩
  have hvis : Vis X.env.scope x := by
    rw [F.hsc]
    unfold visB at hv
    unfold Vis
    split at hv
    · rename_i q; exact .inl q
    · rename_i q; exact .inr (.inl q)
    · rename_i q; exact .inr (.inr q)
    · cases hv
  refine we (pe_var (i := i) (by rw [F.hN]; exact hi) hvis hd'.1 hd'.2) ?_
  unfold evalE at h
  split at h
  · rename_i d hd
    obtain ⟨v, h1, r⟩ := E.at_ i d hd
    exact ⟨v, h1, h.ret R r⟩
  · exact h.elim
theorem gl_of (F : Fr X ct tb Γ N sc) {x : Str} (h : glB sc x = true) : Gl X x := by
  unfold glB at h
  split at h
  · rename_i q
    show X.env.scope.names.lookup x = _
    rw [F.hsc]; exact q
  · cases h
theorem ok1 {x : Str} (h : okName x = true) : (x == ("__debug__" : Str)) = false := by simp [okName] at h ⊢; exact h.1.1
theorem ok3 {x : Str} (h : okName x = true) : x ≠ "__name__" := by simp [okName] at h ⊢; exact h.2
theorem snd_glob {g : Nat} {x : Str} (F : Fr X ct tb Γ N sc) (hi : tb.cons[g]? = some x) (hv : glB sc x = true) (hd : okName x = true) : Snd X ct Γ (.Name x pos) (.glob g) := by
  intro W ρ μ σ H M Q tk E R h
  unfold evalE at h
  split at h
  · rename_i d hc
    obtain ⟨u, v, h1, h2, h3⟩ := F.g.con g x d hi hc
    exact we (pe_glob (gl_of F hv) h1 h2 (ok1 hd)) (h.ret R (h3 _ _))
  · exact h.elim
theorem snd_bin {op : Operator} {o : Bop} (ho : bopOf op = some o) (ha : Snd X ct Γ a A) (hb : Snd X ct Γ b B) : Snd X ct Γ (.BinOp a op b pos) (.bin o A B) := by
  intro W ρ μ σ H M Q tk E R h
  unfold evalE at h
  refine we (pe_op pO pE pE) ?_
  refine ha W ρ μ σ H M _ tk E R (h.step fun d μ1 v H1 M1 e1 R1 r1 h1 => ?_)
  refine hb W ρ μ1 σ H1 M1 _ tk (E.evo e1) R1 (h1.step fun d2 μ2 u H2 M2 e2 R2 r2 h2 => ?_)
  exact bin_ok ho R2 (r1.evo e2) r2 h2
theorem snd_neg (ha : Snd X ct Γ a A) : Snd X ct Γ (.UnaryOp .USub a pos) (.neg A) := by
  intro W ρ μ σ H M Q tk E R h
  unfold evalE at h
  refine we (pe_un un_neg pE) ?_
  refine ha W ρ μ σ H M _ tk E R (h.step fun d μ1 v H1 M1 e1 R1 r1 h1 => ?_)
  split at h1
  · cases r1; exact ⟨_, rfl, h1.ret R1 (.int _)⟩
  · exact h1.elim
theorem snd_notv (ha : Snd X ct Γ a A) : Snd X ct Γ (.UnaryOp .Not a pos) (.notv (.val A)) := by
  intro W ρ μ σ H M Q tk E R h
  simp only [evalE, evalT] at h
  refine we (pe_notT pE) ?_
  refine ha W ρ μ σ H M _ tk E R ?_
  cases hA : evalE Γ A ρ μ with
  | stuck => rw [hA] at h; exact h.elim
  | err c fs μ' => rw [hA] at h; exact h
  | ok d μ' =>
    rw [hA] at h
    intro v H1 M1 e1 R1 r1
    have h1 : Ok X.K ct (RD X.K) M1 H1 ((truD μ' d μ').bind fun b μ => .ok (.bl (!b)) μ) Q _ := Ok.evo e1 h
    obtain ⟨k, t, et, q⟩ := tru_ok (ν := μ') (B := fun k H' => Q (.bl (!k)) H') R1 r1 (h1.step fun k μ2 v2 H2 M2 e2 R2 r2 h2 => by cases r2; exact h2.ret R2 (.bl _))
    exact ⟨k, t, q⟩
theorem snd_and {rest : List Expr} (ha : Snd X ct Γ a A) (hb : Snd X ct Γ (.BoolOp .And (b :: rest) pos) B) : Snd X ct Γ (.BoolOp .And (a :: b :: rest) pos) (.and A B) := by
  intro W ρ μ σ H M Q tk E R h
  unfold evalE at h
  refine we (pe_andT pE pE) ?_
  refine ha W ρ μ σ H M _ tk E R (h.step fun d μ1 v H1 M1 e1 R1 r1 h1 => ?_)
  have h2 : Ok X.K ct RB M1 H1 (truD μ1 d μ1) (fun k H' => if k = true then wE X (.BoolOp .And (b :: rest) pos) σ H' Q else Q v H') (fun c d H' => W c d σ H') := by
    refine h1.step fun k μ2 v2 H2 M2 e2 R2 r2 h2 => ?_
    cases r2
    cases k with
    | true => exact hb W ρ μ2 σ H2 M2 _ tk ((E.evo e1).evo e2) R2 h2
    | false => exact h2.ret R2 (r1.evo e2)
  obtain ⟨k, t, _, q⟩ := tru_ok (ν := μ1) R1 r1 h2
  exact ⟨k, t, q⟩
theorem snd_or {rest : List Expr} (ha : Snd X ct Γ a A) (hb : Snd X ct Γ (.BoolOp .Or (b :: rest) pos) B) : Snd X ct Γ (.BoolOp .Or (a :: b :: rest) pos) (.or A B) := by
  intro W ρ μ σ H M Q tk E R h
  unfold evalE at h
  refine we (pe_orT pE pE) ?_
  refine ha W ρ μ σ H M _ tk E R (h.step fun d μ1 v H1 M1 e1 R1 r1 h1 => ?_)
  have h2 : Ok X.K ct RB M1 H1 (truD μ1 d μ1) (fun k H' => if k = true then Q v H' else wE X (.BoolOp .Or (b :: rest) pos) σ H' Q) (fun c d H' => W c d σ H') := by
    refine h1.step fun k μ2 v2 H2 M2 e2 R2 r2 h2 => ?_
    cases r2
    cases k with
    | true => exact h2.ret R2 (r1.evo e2)
    | false => exact hb W ρ μ2 σ H2 M2 _ tk ((E.evo e1).evo e2) R2 h2
  obtain ⟨k, t, _, q⟩ := tru_ok (ν := μ1) R1 r1 h2
  exact ⟨k, t, q⟩
theorem snd_cmp {op : CmpOp} (F : Fr X ct tb Γ N sc) (hs : isSet b = false) (ha : Snd X ct Γ a A) (hb : Snd X ct Γ b B) : Snd X ct Γ (.Compare a [op] [b] pos) (.cmp (copOf op) A B) := by
  intro W ρ μ σ H M Q tk E R h
  unfold evalE at h
  refine we (pe_cmpR pO pE pE (set_marks hs)) ?_
  refine ha W ρ μ σ H M _ tk E R (h.step fun d μ1 v H1 M1 e1 R1 r1 h1 => ?_)
  refine hb W ρ μ1 σ H1 M1 _ tk (E.evo e1) R1 (h1.step fun d2 μ2 u H2 M2 e2 R2 r2 h2 => ?_)
  exact cmp_ok (B := fun k H' => Q (.bl k) H') F.g.units R2 (r1.evo e2) r2 (h2.step fun k μ3 v3 H3 M3 e3 R3 r3 h3 => by cases r3; exact h3.ret R3 (.bl _)) fun _ _ q => q
theorem chn_tail {op op' : CmpOp} {Qv : VK} (F : Fr X ct tb Γ N sc) {W : WX} {ρ : Rho} {μ : Mu} {σ : St} {H : Hp} {M : AM} (tk : Takes X W) (E : RelE X.K H M σ ρ) (R : RelH X.K ct H μ M) (ha : Snd X ct Γ a A) (hb : Snd X ct Γ b B) (hc : Snd X ct Γ c C')
    (h : Ok X.K ct (RD X.K) M H (evalE Γ (.chn (copOf op) (copOf op') A B C') ρ μ) Qv (fun c d H' => W c d σ H')) : tChain (wO X (compareOp op)) (wO X (compareOp op')) (wE X a) (wE X b) (wE X c) σ H Qv := by
  unfold evalE at h
  refine ha W ρ μ σ H M _ tk E R (h.step fun d μ1 v H1 M1 e1 R1 r1 h1 => ?_)
  refine hb W ρ μ1 σ H1 M1 _ tk (E.evo e1) R1 (h1.step fun d2 μ2 u H2 M2 e2 R2 r2 h2 => ?_)
  refine cmp_ok (B := fun k H' => ∃ k', V.bl k = .bl k' ∧ if k' = true then wE X c σ H' fun z H4 => wO X (compareOp op') u z H4 Qv else Qv (.bl false) H') F.g.units R2 (r1.evo e2) r2 (h2.step fun k μ3 v3 H3 M3 e3 R3 r3 h3 => ?_) fun k H' q => q
  cases r3
  refine ⟨_, rfl, ?_⟩
  cases k with
  | true =>
    refine hc W ρ μ3 σ H3 M3 _ tk (((E.evo e1).evo e2).evo e3) R3 (h3.step fun d4 μ4 z H4 M4 e4 R4 r4 h4 => ?_)
    exact cmp_ok (B := fun k H' => Qv (.bl k) H') F.g.units R4 ((r2.evo e3).evo e4) r4 (h4.step fun k μ5 v5 H5 M5 e5 R5 r5 h5 => by cases r5; exact h5.ret R5 (.bl _)) fun _ _ q => q
  | false => exact h3.ret R3 (.bl _)
theorem snd_chn {op op' : CmpOp} (F : Fr X ct tb Γ N sc) (hs : isSet c = false) (ha : Snd X ct Γ a A) (hb : Snd X ct Γ b B) (hc : Snd X ct Γ c C') : Snd X ct Γ (.Compare a [op, op'] [b, c] pos) (.chn (copOf op) (copOf op') A B C') := by
  intro W ρ μ σ H M Q tk E R h
  exact we (pe_chain pO pO pE pE pE (set_last hs)) (chn_tail F tk E R ha hb hc h)
theorem snd_ite {t : T} (hc : SndT X ct Γ c t) (ha : Snd X ct Γ a A) (hb : Snd X ct Γ b B) : Snd X ct Γ (.IfExp c a b pos) (.ite t A B) := by
  intro W ρ μ σ H M Q tk E R h
  unfold evalE at h
  refine we (pe_ifExp pT pE pE) ?_
  refine hc W ρ μ σ H M _ tk E R (h.step fun k μ1 v H1 M1 e1 R1 r1 h1 => ?_)
  cases r1
  cases k with
  | true => exact ha W ρ μ1 σ H1 M1 _ tk (E.evo e1) R1 h1
  | false => exact hb W ρ μ1 σ H1 M1 _ tk (E.evo e1) R1 h1
theorem snd_call {f : Str} {i k : Nat} (F : Fr X ct tb Γ N sc) (hd : okName f = true) (hg : glB sc f = true) (hf : tb.fns[i]? = some (f, k)) (hs : (e :: es).all (fun e => !star e) = true) (ha : SndA X ct Γ (e :: es) As) : Snd X ct Γ (.Call (.Name f apos) (e :: es) [] pos) (.call i As) := by
  intro W ρ μ σ H M Q tk E R h
  unfold evalE at h
  obtain ⟨k', ad, fd, ps, FO, hr, hm, hk, hb⟩ := F.g.call i f k hf
  simp only [List.all_cons, Bool.and_eq_true, Bool.not_eq_true'] at hs
  refine we (pe_callSD (E := fun σ cls d H => W cls d σ H) FO hr (gl_of F hg) hm hk hb .nil (fun σ => passAt tk σ) pA (ok1 hd) (star_cons hs.1) (star_all hs.2)) ?_
  refine ha W ρ μ σ H M _ tk E R (h.step fun ds μ1 vs H1 M1 e1 R1 r1 h1 => ?_)
  rw [List.append_nil]
  refine ⟨ds, μ1, M1, ?_, R1, r1, h1⟩
  by_cases q : ds.length = k
  · rw [r1.length]; exact q
  · rw [F.g.ar i f k ds μ1 hf q] at h1; exact h1.elim
theorem bif_boot {f : Str} {b : Bif} (h : bifOf f = some b) : f ∈ bins ∧ bootBuiltins f = some (bifV b) := by
  unfold bifOf at h
  repeat' (split at h; · rename_i q; subst q; cases h; exact ⟨by decide, by decide +kernel⟩)
  cases h
theorem snd_bif {f : Str} {b : Bif} (F : Fr X ct tb Γ N sc) (hd : okName f = true) (hg : glB sc f = true) (hf : bifOf f = some b) (hs : (e :: es).all (fun e => !star e) = true) (ha : SndA X ct Γ (e :: es) As) : Snd X ct Γ (.Call (.Name f apos) (e :: es) [] pos) (.bif b As) := by
  intro W ρ μ σ H M Q tk E R h
  unfold evalE at h
  obtain ⟨hb, hv⟩ := bif_boot hf
  simp only [List.all_cons, Bool.and_eq_true, Bool.not_eq_true'] at hs
  have go : wA X (e :: es) σ H fun vs H1 => wC X (bifV b) vs H1 Q :=
    ha W ρ μ σ H M _ tk E R (h.step fun ds μ1 vs H1 M1 e1 R1 r1 h1 => bif_ok F.calm R1 r1 h1)
  cases hbv : bifV b with
  | builtin id => rw [hbv] at hv go; exact we (pe_callB pC (gl_of F hg) (F.g.bi f hb) hv pA (ok3 hd) (ok1 hd) (star_cons hs.1) (star_all hs.2)) go
  | type T => rw [hbv] at hv go; exact we (pe_callTy pC (gl_of F hg) (F.g.bi f hb) hv pA (ok3 hd) (ok1 hd) (star_cons hs.1) (star_all hs.2)) go
  | _ => cases b <;> cases hbv
theorem ty_boot {f : Str} {t : Ty} (h : tyOf f = some t) : f ∈ bins ∧ bootBuiltins f = some (.type (tyN t)) := by
  unfold tyOf at h
  repeat' (split at h; · rename_i q; subst q; cases h; exact ⟨by decide, by decide +kernel⟩)
  cases h
theorem snd_isi {f : Str} {t : Ty} {p2 : Pos} (F : Fr X ct tb Γ N sc) (hg : glB sc "isinstance" = true) (hd : okName f = true) (hgt : glB sc f = true) (hf : tyOf f = some t) (hs : star a = false) (ha : Snd X ct Γ a A) : Snd X ct Γ (.Call (.Name "isinstance" apos) [a, .Name f p2] [] pos) (.isi A t) := by
  intro W ρ μ σ H M Q tk E R h
  unfold evalE at h
  obtain ⟨hb, hv⟩ := ty_boot hf
  have pt : PE X (.Name f p2) (tC (.ty (tyN t))) := pe_bltn (gl_of F hgt) (F.g.bi f hb) hv rfl (ok3 hd) (ok1 hd)
  refine we (pe_callB (id := "isinstance") pC (gl_of F hg) (F.g.bi _ (by decide)) (by decide +kernel) (pa_cons pE (pa_cons pt pa_nil) (star_cons hs)) (by decide) (by decide) (star_cons hs) rfl) ?_
  refine ha W ρ μ σ H M _ tk E R (h.step fun d μ1 v H1 M1 e1 R1 r1 h1 => ?_)
  exact isi_ok R1 r1 h1
theorem met_boot {f : Str} {m : Met} (h : metOf f = some m) : PlainAttrs (metT m) ∧ Slot (metT m) f (metI m) ∧ typeOf (.builtin (metI m)) = pure (.type "method_descriptor") := by
  unfold metOf at h
  split at h
  · rename_i q; subst q; cases h; exact ⟨F.plainAttrs_list, F.slot_list_append, F.type_list_append⟩
  split at h
  · rename_i q; subst q; cases h; exact ⟨F.plainAttrs_str, F.slot_str_join, F.type_str_join⟩
  split at h
  · rename_i q; subst q; cases h; exact ⟨F.plainAttrs_str, F.slot_str_find, F.type_str_find⟩
  split at h
  · rename_i q; subst q; cases h; exact ⟨F.plainAttrs_str, F.slot_str_isascii, F.type_str_isascii⟩
  split at h
  · rename_i q; subst q; cases h; exact ⟨F.plainAttrs_str, F.slot_str_isprintable, F.type_str_isprintable⟩
  split at h
  · rename_i q; subst q; cases h; exact ⟨F.plainAttrs_str, F.slot_str_split, F.type_str_split⟩
  split at h
  · rename_i q; subst q; cases h; exact ⟨F.plainAttrs_str, F.slot_str_isdigit, F.type_str_isdigit⟩
  split at h
  · rename_i q; subst q; cases h; exact ⟨F.plainAttrs_str, F.slot_str_isalpha, F.type_str_isalpha⟩
  split at h
  · rename_i q; subst q; cases h; exact ⟨F.plainAttrs_str, F.slot_str_islower, F.type_str_islower⟩
  split at h
  · rename_i q; subst q; cases h; exact ⟨F.plainAttrs_str, F.slot_str_startswith, F.type_str_startswith⟩
  split at h
  · rename_i q; subst q; cases h; exact ⟨F.plainAttrs_str, F.slot_str_endswith, F.type_str_endswith⟩
  cases h
theorem snd_met {f : Str} {m : Met} (ho : plainO o = true) (hl : (apos.endLine == pos.line) = true) (hn : args.length < 30) (hf : metOf f = some m) (hs : args.all (fun e => !star e) = true) (hnil : args = [] → As = .nil) (hO : Snd X ct Γ o A) (ha : SndA X ct Γ args As) : Snd X ct Γ (.Call (.Attribute o f apos) args [] pos) (.met m A As) := by
  intro W ρ μ σ H M Q tk E R h
  unfold evalE at h
  obtain ⟨b1, b2, b3⟩ := met_boot hf
  cases args with
  | nil =>
    refine we (pe_bm0 b1 b2 b3 pM pE (base_plain ho) hl) ?_
    refine hO W ρ μ σ H M _ tk E R (h.step fun d μ1 v H1 M1 e1 R1 r1 h1 => ?_)
    obtain ⟨ht, h1⟩ := h1.needs
    refine ⟨met_ty R1 r1 ht, ?_⟩
    rw [hnil rfl] at h1
    exact met_ok R1 r1 .nil (h1 : Ok X.K ct (RD X.K) M1 H1 (metD m d [] μ1) Q _)
  | cons e es =>
    simp only [List.all_cons, Bool.and_eq_true, Bool.not_eq_true'] at hs
    refine we (pe_bm b1 b2 b3 pM pE pA (base_plain ho) ?_ hl (star_cons hs.1) (star_all hs.2)) ?_
    · rw [star_all' (by simp only [List.all_cons, Bool.and_eq_true, Bool.not_eq_true']; exact hs)]
      simp only [Bool.true_and]
      show (([] : List (Option Str × Sem Value)).all _ && decide _) = true
      simp only [List.all_nil, Bool.true_and, decide_eq_true_eq]
      simpa using hn
    refine hO W ρ μ σ H M _ tk E R (h.step fun d μ1 v H1 M1 e1 R1 r1 h1 => ?_)
    obtain ⟨ht, h1⟩ := h1.needs
    refine ⟨met_ty R1 r1 ht, ?_⟩
    refine ha W ρ μ1 σ H1 M1 _ tk (E.evo e1) R1 (h1.step fun ds μ2 vs H2 M2 e2 R2 r2 h2 => ?_)
    exact met_ok R2 (r1.evo e2) r2 h2
theorem snd_tr37 {ks : List (Option Expr)} {vs : List Expr} {dpos : Pos} (F : Fr X ct tb Γ N sc) (ho : plainO o = true) (hl : (apos.endLine == pos.line) = true) (ht : litTab ks vs = true) (hO : Snd X ct Γ o A) : Snd X ct Γ (.Call (.Attribute o "translate" apos) [.Dict ks vs dpos] [] pos) (.tr37 A) := by
  intro W ρ μ σ H M Q tk E R h
  unfold evalE at h
  unfold litTab at ht
  split at ht
  · refine we (pe_bm PySem.F.plainAttrs_str PySem.F.slot_str_translate PySem.F.type_str_translate (mt_tr37 F.calm) pE (pa_cons (pe_disp (pps_cons pe_int pe_non pps_nil) rfl rfl (fun z => by cases z) (by show 1 ≤ 15; decide)) pa_nil) (base_plain ho) rfl hl rfl rfl) ?_
    refine hO W ρ μ σ H M _ tk E R (h.step fun d μ1 v H1 M1 e1 R1 r1 h1 => ?_)
    unfold tr37D at h1
    split at h1
    · cases r1
      obtain ⟨⟨hz, hf⟩, h1⟩ := h1.needs
      refine ⟨rfl, fun p hp => ?_⟩
      refine ⟨upd_same, [(.inl 37, .non)], rfl, by decide, ?_⟩
      have e2 : Evo M1 H1 M1 (upd (upd H1 p (.dK [])) p (.dK (mergeK [] [(.inl 37, .non)]))) := by rw [upd_upd]; exact Evo.new hp
      refine ⟨_, p, rfl, rfl, upd_same, hz, hf, ?_⟩
      exact h1 _ _ M1 e2 (by rw [upd_upd]; exact R1.new hp) (.str _)
    · exact h1.elim
  · cases ht
theorem snd_idx (hs : isSlc b = false) (ha : Snd X ct Γ a A) (hb : Snd X ct Γ b B) : Snd X ct Γ (.Subscript a b pos) (.idx A B) := by
  intro W ρ μ σ H M Q tk E R h
  unfold evalE at h
  refine we (pe_ix ix_seq pE pE (slc_plain hs)) ?_
  refine ha W ρ μ σ H M _ tk E R (h.step fun d μ1 v H1 M1 e1 R1 r1 h1 => ?_)
  refine hb W ρ μ1 σ H1 M1 _ tk (E.evo e1) R1 (h1.step fun d2 μ2 u H2 M2 e2 R2 r2 h2 => ?_)
  exact idx_ok R2 (r1.evo e2) r2 h2
theorem kd_in {g : Nat} {z : Str} {d : Addr} {es : Array DictEntry} {n : Nat} {neg : Bool} {l : List (Str × D)} {Q : VK} {H : Hp} (D1 : KDict X.K X.w d es n) (D2 : ∀ z, match l.lookup z with
    | none => PySem.W.nsIn X.K d z = some none
    | some dd => ∃ u v, PySem.W.nsIn X.K d z = some (some u) ∧ RelV v u ∧ ∀ H M, Rep X.K H M v dd) (q : Q (.bl (if neg then !(l.lookup z).isSome else (l.lookup z).isSome)) H) : wO X (compareOp (if neg then .NotIn else .In)) (.str z) (.ref d) H Q := by
  have h := D2 z
  cases hz : l.lookup z with
  | none =>
    rw [hz] at h q
    cases neg with
    | false => exact wo (op_in_kd D1) ⟨z, _, rfl, rfl, h, q⟩
    | true => exact wo (op_notIn_kd D1) ⟨z, _, rfl, rfl, h, q⟩
  | some dd =>
    rw [hz] at h q
    obtain ⟨u, v, h1, _, _⟩ := h
    cases neg with
    | false => exact wo (op_in_kd D1) ⟨z, _, rfl, rfl, h1, q⟩
    | true => exact wo (op_notIn_kd D1) ⟨z, _, rfl, rfl, h1, q⟩
theorem snd_gin {g : Nat} {neg : Bool} {x : Str} {p2 : Pos} (F : Fr X ct tb Γ N sc) (hd : okName x = true) (hg : glB sc x = true) (hi : tb.dics[g]? = some x) (ha : Snd X ct Γ a A) : Snd X ct Γ (.Compare a [if neg then .NotIn else .In] [.Name x p2] pos) (.gin neg g A) := by
  intro W ρ μ σ H M Q tk E R h
  unfold evalE at h
  obtain ⟨d, hm, es, n, D1, D2⟩ := F.g.dic g x hi
  refine we (pe_cmpR pO pE (pe_glob (v := .ref d) (gl_of F hg) hm rfl (ok1 hd)) (set_marks rfl)) ?_
  refine ha W ρ μ σ H M _ tk E R (h.step fun dd μ1 v H1 M1 e1 R1 r1 h1 => ?_)
  split at h1
  · cases r1
    exact kd_in (g := g) D1 D2 (h1.ret R1 (.bl _))
  · exact h1.elim
theorem sndT_gin {g : Nat} {neg : Bool} {x : Str} {p2 : Pos} (F : Fr X ct tb Γ N sc) (hd : okName x = true) (hg : glB sc x = true) (hi : tb.dics[g]? = some x) (ha : Snd X ct Γ a A) : SndT X ct Γ (.Compare a [if neg then .NotIn else .In] [.Name x p2] pos) (.val (.gin neg g A)) := by
  intro W ρ μ σ H M Q tk E R h
  simp only [evalT, evalE] at h
  obtain ⟨d, hm, es, n, D1, D2⟩ := F.g.dic g x hi
  refine wt (pt_cmpR pO pE (pe_glob (v := .ref d) (gl_of F hg) hm rfl (ok1 hd)) (set_marks rfl)) ?_
  have assoc : ∀ {α β γ : Type} (r : Res α) (f : α → Mu → Res β) (g : β → Mu → Res γ), (r.bind f).bind g = r.bind fun x μ => (f x μ).bind g := fun r f g => by cases r <;> rfl
  rw [assoc] at h
  refine ha W ρ μ σ H M _ tk E R (h.step fun dd μ1 v H1 M1 e1 R1 r1 h1 => ?_)
  cases r1 with
  | str z => exact kd_in (g := g) D1 D2 ⟨_, rfl, Ok.ret (μ := μ1) h1 R1 rfl⟩
  | _ => exact (h1 : False).elim
theorem snd_gdict {g : Nat} {x : Str} {p2 : Pos} (F : Fr X ct tb Γ N sc) (hs : isSlc a = false) (hd : okName x = true) (hg : glB sc x = true) (hi : tb.dics[g]? = some x) (ha : Snd X ct Γ a A) : Snd X ct Γ (.Subscript (.Name x p2) a pos) (.gdict g A) := by
  intro W ρ μ σ H M Q tk E R h
  unfold evalE at h
  obtain ⟨d, hm, es, n, D1, D2⟩ := F.g.dic g x hi
  refine we (pe_ix ix_kdict (pe_glob (v := .ref d) (gl_of F hg) hm rfl (ok1 hd)) pE (slc_plain hs)) ?_
  refine ha W ρ μ σ H M _ tk E R (h.step fun dd μ1 v H1 M1 e1 R1 r1 h1 => ?_)
  split at h1
  · next z =>
    cases r1
    split at h1
    · next d2 hz =>
      have q := D2 z
      rw [hz] at q
      obtain ⟨u, v, q1, q2, q3⟩ := q
      exact ⟨d, z, v, rfl, rfl, ⟨es, n, u, D1.at_, D1.lit, q1, q2⟩, h1.ret R1 (q3 _ _)⟩
    · exact h1.elim
  · exact h1.elim
theorem sndO_none : SndO X ct Γ none .none := ⟨_, po_none, fun W ρ μ σ H M Q tk E R h => Ok.ret (μ := μ) h R rfl⟩
theorem sndO_some (ha : Snd X ct Γ a A) : SndO X ct Γ (some a) (.some A) := ⟨_, po_some pE, fun W ρ μ σ H M Q tk E R h => by
  unfold evalO at h
  refine ha W ρ μ σ H M _ tk E R (h.step fun d μ1 v H1 M1 e1 R1 r1 h1 => ?_)
  split at h1
  · cases r1; exact ⟨_, rfl, h1.ret R1 rfl⟩
  · exact h1.elim⟩
theorem snd_slc {lo hi : Option Expr} {L U : O} {p2 : Pos} (ha : Snd X ct Γ a A) (hl : SndO X ct Γ lo L) (hh : SndO X ct Γ hi U) : Snd X ct Γ (.Subscript a (.Slice lo hi none p2) pos) (.slc A L U) := by
  intro W ρ μ σ H M Q tk E R h
  unfold evalE at h
  obtain ⟨tl, pl, sl⟩ := hl
  obtain ⟨th, ph, sh⟩ := hh
  refine we (pe_slice sl_any pE pl ph) ?_
  refine ha W ρ μ σ H M _ tk E R (h.step fun d μ1 v H1 M1 e1 R1 r1 h1 => ?_)
  refine sl W ρ μ1 σ H1 M1 _ tk (E.evo e1) R1 (h1.step fun l μ2 u H2 M2 e2 R2 r2 h2 => ?_)
  cases r2
  refine sh W ρ μ2 σ H2 M2 _ tk ((E.evo e1).evo e2) R2 (h2.step fun l μ3 u H3 M3 e3 R3 r3 h3 => ?_)
  cases r3
  exact slc_ok R3 ((r1.evo e2).evo e3) h3
theorem snd_tup {k : Nat} (ha : SndA X ct Γ es As) : Snd X ct Γ (.Tuple es k pos) (.tup As) := by
  intro W ρ μ σ H M Q tk E R h
  unfold evalE at h
  refine we (pe_tup pA) ?_
  refine ha W ρ μ σ H M _ tk E R (h.step fun ds μ1 vs H1 M1 e1 R1 r1 h1 => ?_)
  obtain ⟨hz, h1⟩ := h1.needs
  exact ⟨sl16 (by rw [r1.length]; exact hz), fun p hp => h1.newT R1 r1 hp⟩
theorem snd_lst (ha : SndA X ct Γ es As) : Snd X ct Γ (.List es pos) (.lst As) := by
  intro W ρ μ σ H M Q tk E R h
  unfold evalE at h
  refine we (pe_lst pA) ?_
  refine ha W ρ μ σ H M _ tk E R (h.step fun ds μ1 vs H1 M1 e1 R1 r1 h1 => ?_)
  obtain ⟨hz, h1⟩ := h1.needs
  exact ⟨sl16 (by rw [r1.length]; exact hz), fun p hp => h1.newL R1 r1 hp⟩
theorem sndA_nil : SndA X ct Γ [] .nil := by
  intro W ρ μ σ H M Q tk E R h
  exact wa pa_nil (Ok.ret (μ := μ) h R .nil)
theorem sndA_cons (hs : star e = false) (ha : Snd X ct Γ e A) (hr : SndA X ct Γ es As) : SndA X ct Γ (e :: es) (.cons A As) := by
  intro W ρ μ σ H M Q tk E R h
  unfold evalEs at h
  refine wa (pa_cons pE pA (star_cons hs)) ?_
  refine ha W ρ μ σ H M _ tk E R (h.step fun d μ1 v H1 M1 e1 R1 r1 h1 => ?_)
  refine hr W ρ μ1 σ H1 M1 _ tk (E.evo e1) R1 (h1.step fun ds μ2 vs H2 M2 e2 R2 r2 h2 => ?_)
  exact h2.ret R2 (.cons (r1.evo e2) r2)
/-! tests -/
theorem sndT_val (hp : plainT e = true) (ha : Snd X ct Γ e A) : SndT X ct Γ e (.val A) := by
  intro W ρ μ σ H M Q tk E R h
  unfold evalT at h
  refine wt (pt_truth pE (true_plain hp)) ?_
  refine ha W ρ μ σ H M _ tk E R (h.step fun d μ1 v H1 M1 e1 R1 r1 h1 => ?_)
  obtain ⟨k, t, _, q⟩ := tru_ok (ν := μ1) R1 r1 h1
  exact ⟨k, t, q⟩
theorem bl_of {d : D} {μ1 : Mu} {v : V} {H1 : Hp} {M1 : AM} {k : Bool} {W' : XK} {Q : Bool → Hp → Prop} (R1 : RelH X.K ct H1 μ1 M1) (h1 : Ok X.K ct RB M1 H1 (truD μ1 (.bl k) μ1) Q W') : Q k H1 := h1.ret R1 rfl
theorem sndT_cmp {op : CmpOp} (F : Fr X ct tb Γ N sc) (hs : isSet b = false) (ha : Snd X ct Γ a A) (hb : Snd X ct Γ b B) : SndT X ct Γ (.Compare a [op] [b] pos) (.val (.cmp (copOf op) A B)) := by
  intro W ρ μ σ H M Q tk E R h
  simp only [evalT, evalE] at h
  refine wt (pt_cmpR pO pE pE (set_marks hs)) ?_
  have assoc : ∀ {α β γ : Type} (r : Res α) (f : α → Mu → Res β) (g : β → Mu → Res γ), (r.bind f).bind g = r.bind fun x μ => (f x μ).bind g := fun r f g => by cases r <;> rfl
  simp only [assoc] at h
  refine ha W ρ μ σ H M _ tk E R (h.step fun d μ1 v H1 M1 e1 R1 r1 h1 => ?_)
  refine hb W ρ μ1 σ H1 M1 _ tk (E.evo e1) R1 (h1.step fun d2 μ2 u H2 M2 e2 R2 r2 h2 => ?_)
  exact cmp_ok (B := fun k H' => ∃ k', V.bl k = .bl k' ∧ Q k' H') F.g.units R2 (r1.evo e2) r2 (h2.step fun k μ3 v3 H3 M3 e3 R3 r3 h3 => by cases r3; exact ⟨_, rfl, Ok.ret (μ := μ3) h3 R3 rfl⟩) fun _ _ q => q
theorem sndT_chn {op op' : CmpOp} (F : Fr X ct tb Γ N sc) (hs : isSet c = false) (ha : Snd X ct Γ a A) (hb : Snd X ct Γ b B) (hc : Snd X ct Γ c C') : SndT X ct Γ (.Compare a [op, op'] [b, c] pos) (.val (.chn (copOf op) (copOf op') A B C')) := by
  intro W ρ μ σ H M Q tk E R h
  unfold evalT at h
  refine wt (pt_chain pO pO pE pE pE (set_last hs)) ?_
  refine chn_tail F (Qv := fun x H' => ∃ k, x = .bl k ∧ Q k H') tk E R ha hb hc ?_
  -- the value is a bool
  have bl : ∀ d μ', evalE Γ (.chn (copOf op) (copOf op') A B C') ρ μ = .ok d μ' → ∃ k, d = .bl k := by
    intro d μ' q
    simp only [evalE] at q
    cases h1 : evalE Γ A ρ μ <;> rw [h1] at q <;> simp only [Res.bind, reduceCtorEq] at q
    rename_i x μ1
    cases h2 : evalE Γ B ρ μ1 <;> rw [h2] at q <;> simp only [reduceCtorEq] at q
    rename_i y μ2
    cases h3 : cmpD (copOf op) x y μ2 <;> rw [h3] at q <;> simp only [reduceCtorEq] at q
    rename_i k μ3
    cases k with
    | false => simp only [Bool.false_eq_true, if_false, Res.ok.injEq] at q; exact ⟨_, q.1.symm⟩
    | true =>
      simp only [if_true] at q
      cases h4 : evalE Γ C' ρ μ3 <;> rw [h4] at q <;> simp only [reduceCtorEq] at q
      rename_i z μ4
      cases h5 : cmpD (copOf op') y z μ4 <;> rw [h5] at q <;> simp only [reduceCtorEq, Res.ok.injEq] at q
      exact ⟨_, q.1.symm⟩
  cases hA : evalE Γ (.chn (copOf op) (copOf op') A B C') ρ μ with
  | stuck => rw [hA] at h; exact h.elim
  | err c fs μ' => rw [hA] at h; exact h
  | ok d μ' =>
    obtain ⟨k, rfl⟩ := bl d μ' hA
    rw [hA] at h
    intro v H' M' e' R' r'
    cases r'
    exact ⟨k, rfl, Ok.ret (μ := μ') (Ok.evo e' h) R' rfl⟩
theorem sndT_not {t : T} (ha : SndT X ct Γ a t) : SndT X ct Γ (.UnaryOp .Not a pos) (.not t) := by
  intro W ρ μ σ H M Q tk E R h
  unfold evalT at h
  refine wt (pt_not pT) ?_
  refine ha W ρ μ σ H M _ tk E R (h.step fun k μ1 v H1 M1 e1 R1 r1 h1 => ?_)
  cases r1
  exact h1.ret R1 rfl
theorem sndT_w {t : T} (ha : SndW X ct Γ e t) : SndT X ct Γ e t := by
  intro W ρ μ σ H M Q tk E R h
  exact wt (pW.pt) (ha W ρ μ σ H M Q tk E R h)
theorem sndW_and1 {t : T} (ha : SndT X ct Γ a t) : SndW X ct Γ (.BoolOp .And [a] pos) t := by
  intro W ρ μ σ H M Q tk E R h
  exact ww (pw_and1 pT) (ha W ρ μ σ H M Q tk E R h)
theorem sndW_or1 {t : T} (ha : SndT X ct Γ a t) : SndW X ct Γ (.BoolOp .Or [a] pos) t := by
  intro W ρ μ σ H M Q tk E R h
  exact ww (pw_or1 pT) (ha W ρ μ σ H M Q tk E R h)
theorem sndW_and {t u : T} {rest : List Expr} (ha : SndT X ct Γ a t) (hb : SndW X ct Γ (.BoolOp .And (b :: rest) pos) u) : SndW X ct Γ (.BoolOp .And (a :: b :: rest) pos) (.and t u) := by
  intro W ρ μ σ H M Q tk E R h
  unfold evalT at h
  refine ww (pw_and pT pW) ?_
  refine ha W ρ μ σ H M _ tk E R (h.step fun k μ1 v H1 M1 e1 R1 r1 h1 => ?_)
  cases r1
  cases k with
  | true => exact hb W ρ μ1 σ H1 M1 _ tk (E.evo e1) R1 h1
  | false => exact h1.ret R1 rfl
theorem sndW_or {t u : T} {rest : List Expr} (ha : SndT X ct Γ a t) (hb : SndW X ct Γ (.BoolOp .Or (b :: rest) pos) u) : SndW X ct Γ (.BoolOp .Or (a :: b :: rest) pos) (.or t u) := by
  intro W ρ μ σ H M Q tk E R h
  unfold evalT at h
  refine ww (pw_or pT pW) ?_
  refine ha W ρ μ σ H M _ tk E R (h.step fun k μ1 v H1 M1 e1 R1 r1 h1 => ?_)
  cases r1
  cases k with
  | true => exact h1.ret R1 rfl
  | false => exact hb W ρ μ1 σ H1 M1 _ tk (E.evo e1) R1 h1
end
end PyI
/-! A9: what is walked; comprehensions. -/
namespace PyI
open PySem L2

/-- the iterator J walks the items -/
structure ItOk (K : PySem.W.Frag) (ct : CTab) (M : AM) (H : Hp) (J : L2.It) (its : Its) : Prop where
  go : ∀ (M' : AM) (H' : Hp) (μ' : Mu) (i : Nat) (d : D), Stay M H M' H' → RelH K ct H' μ' M' → chkOf its.2 μ' = true → its.1[i]? = some d → J.go i H' ∧ ∀ x H'', J.yld i H' x H'' → H'' = H' ∧ Rep K H' M' x d
  stop : ∀ (M' : AM) (H' : Hp) (μ' : Mu), Stay M H M' H' → RelH K ct H' μ' M' → chkOf its.2 μ' = true → J.stop its.1.length H'
abbrev RJ (K : PySem.W.Frag) (ct : CTab) : Hp → AM → L2.It → Its → Prop := fun H M J its => ItOk K ct M H J its
def SndI (X : Cx) (ct : CTab) (Γ : G) (tg e : Expr) (A : IT) : Prop := ∀ (W : WX) (ρ : Rho) (μ : Mu) (σ : St) (H : Hp) (M : AM) (Q : L2.It → Hp → Prop), Takes X W → RelE X.K H M σ ρ → RelH X.K ct H μ M →
  Ok X.K ct (RJ X.K ct) M H (evalIt Γ A ρ μ) Q (fun c d H' => W c d σ H') → wI X tg e σ H Q
section
variable {K : PySem.W.Frag} {ct : CTab} {H : Hp} {M : AM} {a : Addr} {xs : List V} {ds : List D} {μ : Mu}
theorem rd_lst_eq {K : PySem.W.Frag} {H : Hp} {xs ys : List V} (h : Rd H a (.lst xs)) (h' : Rd H a (.lst ys)) : xs = ys := by
  rcases h with h | ⟨o, h⟩ <;> rcases h' with h' | ⟨o', h'⟩ <;> rw [h] at h' <;> cases h' <;> rfl
theorem itok_t (h : TA' K H M a xs) (r : Reps K H M xs ds) : ItOk K ct M H (Itt K a) (ds, none) where
  go := fun M' H' μ' i d e R _ hi => by
    obtain ⟨x, hx, rx⟩ := (r.stay e).get hi
    have sq := (h.stay e).sq
    refine ⟨⟨xs, x, sq, hx⟩, fun y H'' q => ⟨q.1, ?_⟩⟩
    have := q.2 xs sq
    rw [hx] at this; cases this
    exact rx
  stop := fun M' H' μ' e R _ => ⟨xs, (h.stay e).sq, by rw [r.length]; exact Nat.le_refl _⟩
theorem itok_l (h : LA' K H M a xs) (r : Reps K H M xs ds) : ItOk K ct M H (Itl K a) (ds, none) where
  go := fun M' H' μ' i d e R _ hi => by
    obtain ⟨x, hx, rx⟩ := (r.stay e).get hi
    have sq := (h.stay e).sq
    refine ⟨⟨xs, x, sq, hx⟩, fun y H'' q => ⟨q.1, ?_⟩⟩
    have := q.2 xs sq
    rw [hx] at this; cases this
    exact rx
  stop := fun M' H' μ' e R _ => ⟨xs, (h.stay e).sq, by rw [r.length]; exact Nat.le_refl _⟩
theorem itok_r {n : Nat} (ha : M.ix[n]? = some a) : ItOk K ct M H (Itl K a) (ds, some (n, ds)) where
  go := fun M' H' μ' i d e R hc hi => by
    simp only [chkOf] at hc
    split at hc
    · rename_i l' hl
      rw [beqs_eq _ _ hc] at hl
      obtain ⟨ys, h1, r1⟩ := R.lst hl (e.pre _ _ ha)
      obtain ⟨x, hx, rx⟩ := r1.get hi
      have sq : SqL K H' a ys := .inl (.inl h1)
      refine ⟨⟨ys, x, sq, hx⟩, fun y H'' q => ⟨q.1, ?_⟩⟩
      have := q.2 ys sq
      rw [hx] at this; cases this
      exact rx
    · cases hc
  stop := fun M' H' μ' e R hc => by
    simp only [chkOf] at hc
    split at hc
    · rename_i l' hl
      rw [beqs_eq _ _ hc] at hl
      obtain ⟨ys, h1, r1⟩ := R.lst hl (e.pre _ _ ha)
      exact ⟨ys, .inl (.inl h1), by rw [r1.length]; exact Nat.le_refl _⟩
    · cases hc
theorem itok_s (x : Str) : ItOk K ct M H (L2.Its x) (x.cps.toList.map fun c => D.str ⟨#[c]⟩, none) where
  go := fun M' H' μ' i d e R _ hi => by
    simp only [List.getElem?_map, Option.map_eq_some_iff] at hi
    obtain ⟨c, hc, rfl⟩ := hi
    have hc' : x.cps[i]? = some c := by rw [← Array.getElem?_toList]; exact hc
    refine ⟨?_, fun y H'' q => ?_⟩
    · show i < x.cps.size
      rcases Nat.lt_or_ge i x.cps.size with z | z
      · exact z
      · rw [Array.getElem?_eq_none z] at hc'; cases hc'
    · obtain ⟨q1, c', hc2, rfl⟩ := q
      rw [hc'] at hc2; cases hc2
      exact ⟨q1, .str _⟩
  stop := fun M' H' μ' e R _ => by
    show x.cps.size ≤ (x.cps.toList.map fun c => D.str ⟨#[c]⟩).length
    simp
theorem itok_n (lo : Int) (n : Nat) : ItOk K ct M H (Itr lo n) (rngD lo n, none) where
  go := fun M' H' μ' i d e R _ hi => by
    simp only [rngD, List.getElem?_map, Option.map_eq_some_iff] at hi
    obtain ⟨k, hk, rfl⟩ := hi
    have hin : i < n := by
      rcases Nat.lt_or_ge i n with z | z
      · exact z
      · rw [List.getElem?_eq_none (by simpa using z)] at hk; cases hk
    rw [List.getElem?_range hin] at hk; cases hk
    exact ⟨hin, fun y H'' q => ⟨q.1, by rw [q.2]; exact .int _⟩⟩
  stop := fun M' H' μ' e R _ => by
    show n ≤ (rngD lo n).length
    simp [rngD]
end
section
variable {X : Cx} {ct : CTab} {Γ : G} {N : List Str} {sc : Scope} {tb : Tb} {e a b tg : Expr} {A B : E} {pos apos : Pos}
theorem sndI_seq (ha : Snd X ct Γ e A) : SndI X ct Γ tg e (.seq A) := by
  intro W ρ μ σ H M Q tk E R h
  unfold evalIt at h
  cases hA : evalE Γ A ρ μ with
  | stuck => rw [hA] at h; exact h.elim
  | err c fs μ' =>
    refine wi (pi_list pE) (ha W ρ μ σ H M _ tk E R ?_)
    rw [hA] at h ⊢; exact h
  | ok d μ' =>
    have go : ∀ {Q' : VK}, (∀ v H' M', Evo M H M' H' → RelH X.K ct H' μ' M' → Rep X.K H' M' v d → Q' v H') → wE X e σ H Q' := fun k => ha W ρ μ σ H M _ tk E R (by rw [hA]; exact k)
    rw [hA] at h
    have h' : ∀ {H' M'}, Evo M H M' H' → Ok X.K ct (RJ X.K ct) M' H' (itD d μ') Q (fun c d H' => W c d σ H') := fun e' => Ok.evo e' h
    clear h
    cases d with
    | tup l =>
      refine wi (pi_tup pE) (go fun v H' M' e' R' r' => ?_)
      cases r' with
      | tup h1 r1 => exact ⟨_, rfl, ⟨_, h1.sq⟩, Ok.ret (μ := μ') (h' e') R' (itok_t h1 r1)⟩
    | lst l =>
      refine wi (pi_list pE) (go fun v H' M' e' R' r' => ?_)
      cases r' with
      | lst h1 r1 => exact ⟨_, rfl, ⟨_, h1.sq⟩, Ok.ret (μ := μ') (h' e') R' (itok_l h1 r1)⟩
    | ref n =>
      refine wi (pi_list pE) (go fun v H' M' e' R' r' => ?_)
      have h2 := h' e'
      unfold itD at h2
      simp only at h2
      split at h2
      · rename_i l hl
        cases r' with
        | ref hr =>
          obtain ⟨xs, h1, r1⟩ := R'.lst hl hr
          exact ⟨_, rfl, ⟨xs, .inl (.inl h1)⟩, Ok.ret (μ := μ') h2 R' (itok_r hr)⟩
      · exact h2.elim
    | str s =>
      refine wi (pi_str pE) (go fun v H' M' e' R' r' => ?_)
      cases r'
      exact ⟨_, rfl, Ok.ret (μ := μ') (h' e') R' (itok_s s)⟩
    | non => exact (h' (Evo.refl _ _)).elim
    | bl _ => exact (h' (Evo.refl _ _)).elim
    | int _ => exact (h' (Evo.refl _ _)).elim
theorem sndI_rng1 (F : Fr X ct tb Γ N sc) (hg : glB sc "range" = true) (hs : star a = false) (ha : Snd X ct Γ a A) : SndI X ct Γ tg (.Call (.Name "range" apos) [a] [] pos) (.rng1 A) := by
  intro W ρ μ σ H M Q tk E R h
  unfold evalIt at h
  refine wi (pi_range1 (gl_of F hg) (F.g.bi _ (by decide)) (pa_cons pE pa_nil (star_cons hs)) (star_cons hs)) ?_
  refine ha W ρ μ σ H M _ tk E R (h.step fun d μ1 v H1 M1 e1 R1 r1 h1 => ?_)
  split at h1
  · rename_i j
    cases r1
    obtain ⟨hz, h1⟩ := h1.needs
    exact ⟨j, rfl, hz.1, hz.2, h1.ret R1 (itok_n 0 _)⟩
  · exact h1.elim
theorem sndI_rng2 (F : Fr X ct tb Γ N sc) (hg : glB sc "range" = true) (hs : star a = false) (hs2 : star b = false) (ha : Snd X ct Γ a A) (hb : Snd X ct Γ b B) : SndI X ct Γ tg (.Call (.Name "range" apos) [a, b] [] pos) (.rng2 A B) := by
  intro W ρ μ σ H M Q tk E R h
  unfold evalIt at h
  refine wi (pi_range2 (gl_of F hg) (F.g.bi _ (by decide)) (pa_cons pE (pa_cons pE pa_nil (star_cons hs2)) (star_cons hs)) (by rw [star_cons hs, star_cons hs2, star_nil]) (by rw [star_cons hs2, star_nil])) ?_
  refine ha W ρ μ σ H M _ tk E R (h.step fun d μ1 v H1 M1 e1 R1 r1 h1 => ?_)
  refine hb W ρ μ1 σ H1 M1 _ tk (E.evo e1) R1 (h1.step fun d2 μ2 u H2 M2 e2 R2 r2 h2 => ?_)
  split at h2
  · rename_i i j
    cases r1; cases r2
    obtain ⟨hz, h2⟩ := h2.needs
    exact ⟨i, j, rfl, ⟨hz.1.1, hz.1.2, hz.2.1, hz.2.2⟩, h2.ret R2 (itok_n i _)⟩
  · exact h2.elim

/-! ### targets -/
def gNames : List Nat → TGs
  | [] => gNil
  | i :: is => gCons (gName i) (gNames is)
def gOf (K : PySem.W.Frag) : Tg → TG
  | .nm i => gName i
  | .tp l => gTup K l.length (gNames l)
def FnLoc (X : Cx) (sc : Scope) (loc : List Str) : Prop := ∀ x ∈ loc, Loc sc x ∧ (X.fn x = true ∨ sc.names.lookup x = some .local)
theorem pg_nm {loc : List Str} {x : Str} {i : Nat} (F : Fr X ct tb Γ N sc) (L : FnLoc X sc loc) (hx : x ∈ loc) (hi : N[i]? = some x) : PG X (.Name x pos) (gName i) :=
  pg_name (by rw [F.hN]; exact F.nd) (by rw [F.hN]; exact hi) (by rw [F.hsc]; exact (L x hx).1) (by rw [F.hsc]; exact (L x hx).2)
theorem names_ok {loc : List Str} (F : Fr X ct tb Γ N sc) (L : FnLoc X sc loc) : ∀ {es : List Expr} {l : List Nat}, resNames N loc es = some l → PGs X es (gNames l) ∧ (assignEach es X.env).length = l.length ∧ (assignEach es X.env).findIdx? (·.1) = none
  | [], l, h => by cases h; exact ⟨pgs_nil, rfl, rfl⟩
  | e :: es, l, h => by
    unfold resNames at h
    split at h
    · rename_i q; cases q
    · rename_i x p es' he
      cases he
      obtain ⟨hx, h⟩ := guardO_some h
      obtain ⟨i, hi, h⟩ := Option.bind_eq_some_iff.mp h
      obtain ⟨l', hl, rfl⟩ := Option.map_eq_some_iff.mp h
      obtain ⟨p1, p2, p3⟩ := names_ok F L hl
      refine ⟨pgs_cons (pg_nm F L (of_decide_eq_true hx) (ixOf_get hi)) p1 rfl, ?_, ?_⟩
      · show (assignEach es X.env).length + 1 = l'.length + 1
        rw [p2]
      · show List.findIdx? (·.1) ((false, assign (.Name x p) X.env) :: assignEach es X.env) = none
        rw [List.findIdx?_cons, p3]; rfl
    · cases h
theorem tg_ok {loc : List Str} {t : Tg} (F : Fr X ct tb Γ N sc) (L : FnLoc X sc loc) (h : resTg N loc tg = some t) : PG X tg (gOf X.K t) := by
  unfold resTg at h
  split at h
  · obtain ⟨hx, h⟩ := guardO_some h
    obtain ⟨i, hi, rfl⟩ := Option.map_eq_some_iff.mp h
    exact pg_nm F L (of_decide_eq_true hx) (ixOf_get hi)
  · obtain ⟨l, hl, rfl⟩ := Option.map_eq_some_iff.mp h
    obtain ⟨p1, p2, p3⟩ := names_ok F L hl
    exact pg_tup F.calm p1 p2 p3
  · cases h
end
section
variable {K : PySem.W.Frag} {H : Hp} {M : AM} {Q : St → Hp → Prop}
theorem gnames_ok : ∀ {l : List Nat} {vs : List V} {ds : List D} {σ : St} {ρ : Rho}, ds.length = l.length → Reps K H M vs ds → RelE K H M σ ρ →
    (∀ σ', RelE K H M σ' ((l.zip ds).foldl (fun ρ p => ρ.set p.1 (some p.2)) ρ) → (∀ own, (∀ i ∈ l, i ∈ own) → wipe σ' own = wipe σ own) → Q σ' H) → gNames l vs σ H Q
  | [], vs, ds, σ, ρ, hl, r, E, k => by
    cases r with
    | nil => exact ⟨rfl, k σ E fun _ _ => rfl⟩
    | cons => cases hl
  | i :: l, vs, ds, σ, ρ, hl, r, E, k => by
    cases r with
    | nil => cases hl
    | cons h r =>
      rename_i v vs d ds
      refine ⟨v, vs, rfl, ?_⟩
      refine gnames_ok (l := l) (ρ := ρ.set i (some d)) (Nat.succ.inj hl) r (E.set h i) fun σ' E' hw => k σ' E' fun own ho => ?_
      rw [hw own fun j hj => ho j (List.mem_cons_of_mem _ hj), wipe_set (ho i (List.mem_cons_self ..))]
theorem assign_ok {t : Tg} {v : V} {d : D} {σ : St} {ρ ρ' : Rho} (r : Rep K H M v d) (E : RelE K H M σ ρ) (h : assignT t d ρ = some ρ')
    (k : ∀ σ', RelE K H M σ' ρ' → (∀ own, (∀ i ∈ slotsOf t, i ∈ own) → wipe σ' own = wipe σ own) → Q σ' H) : gOf K t v σ H Q := by
  unfold assignT at h
  split at h
  · cases h
    exact k _ (E.set r _) fun own ho => wipe_set (ho _ (List.mem_singleton_self _))
  · split at h
    · split at h
      · rename_i hl
        cases h
        cases r with
        | tup h1 r1 => exact ⟨_, _, rfl, h1.sq, by rw [r1.length]; exact hl, gnames_ok hl r1 E k⟩
      · cases h
    · cases h
end
end PyI
/-! A10: comprehensions; the resolver is sound for expressions. -/
namespace PyI
open PySem L2
section
variable {K : PySem.W.Frag} {ct : CTab} {H H1 H' : Hp} {M M1 M' : AM} {p : Addr} {o : HO}
theorem Evo.stayHide (e : Evo M H M' H') (hp : H p = none) : Stay M H (M'.hide p) H' := ⟨e.pre, fun a o h n => ⟨(e.keep a o h n.1).1, (e.keep a o h n.1).2, by
  show a ∉ p :: M'.ex
  rw [List.mem_cons, e.ex]
  rintro (q | q)
  · exact ne_of_none h hp q
  · exact n.2 q⟩⟩
theorem Evo.newEx (e : Evo M H M' H') (hp : H p = none) : Evo M H M' (upd H' p o) := ⟨e.pre, e.len, e.ex, fun a u h n => ⟨by rw [upd_ne (ne_of_none h hp)]; exact (e.keep a u h n).1, (e.keep a u h n).2⟩⟩
end
theorem wipe_at {τ : St} {k : Nat} : ∀ {vs : List Nat}, k ∈ vs → k < τ.length → (L2.wipe τ vs)[k]? = some none
  | [], h, _ => by cases h
  | j :: js, hk, hl => by
    unfold L2.wipe
    rw [List.getElem?_set]
    by_cases e : j = k
    · rw [if_pos e, if_pos (by rw [wipe_length, e]; exact hl)]
    · rw [if_neg e]
      rcases List.mem_cons.mp hk with z | z
      · exact absurd z.symm e
      · exact wipe_at z hl
theorem wipe_wipe {σ : St} {vs : List Nat} : L2.wipe (L2.wipe σ vs) vs = L2.wipe σ vs := by
  apply List.ext_getElem?
  intro k
  by_cases hk : k ∈ vs
  · rcases Nat.lt_or_ge k σ.length with z | z
    · rw [wipe_at hk z, wipe_at hk (by rw [wipe_length]; exact z)]
    · rw [List.getElem?_eq_none (by rw [wipe_length, wipe_length]; exact z), List.getElem?_eq_none (by rw [wipe_length]; exact z)]
  · rw [L2.wipe_out hk]
/-- the block of a comprehension, as a frame -/
theorem Fr.blk {X : Cx} {ct : CTab} {Γ : G} {N : List Str} {sc scope : Scope} {tb : Tb} {own : List (Str × Nat)} (F : Fr X ct tb Γ N sc) (ok : BlkOk N sc scope own) (s : Shared) (H : Hp) (C : Addr) (cl : List (Str × Addr)) (fp : List Addr) :
    Fr (X.blk s H scope (compEnvC scope cl C X.env) fp) ct tb Γ N (relS scope sc) where
  hN := F.hN
  hsc := by show relS scope X.env.scope = _; rw [F.hsc]
  nd := F.nd
  calm := F.calm
  kindF := ok.kind
  g := F.g
theorem lookup_mem {α : Type} : ∀ {l : List (Str × α)} {x : Str} {k : α}, (x, k) ∈ l → (∀ y ∈ l, l.lookup y.1 = some y.2) → l.lookup x = some k := fun h hu => hu _ h
theorem own_loc {X : Cx} {N : List Str} {sc scope : Scope} (ok : BlkOk N sc scope (ownOf N scope)) (s : Shared) (H : Hp) (C : Addr) (cl : List (Str × Addr)) (fp : List Addr) :
    FnLoc (X.blk s H scope (compEnvC scope cl C X.env) fp) (relS scope sc) ((ownOf N scope).map Prod.fst) := by
  intro x hx
  obtain ⟨⟨y, i⟩, hp, rfl⟩ := List.mem_map.mp hx
  unfold ownOf at hp
  obtain ⟨⟨z, k⟩, hz, e⟩ := List.mem_filterMap.mp hp
  have hu := ok.uniq _ hz
  cases k with
  | «local» =>
    obtain ⟨j, _, e'⟩ := Option.map_eq_some_iff.mp e
    cases e'
    have q : (relS scope sc).names.lookup z = some .local := lookup_relS_keep (by intro w; cases w) hu
    exact ⟨.inl q, .inr q⟩
  | cell =>
    obtain ⟨j, _, e'⟩ := Option.map_eq_some_iff.mp e
    cases e'
    have q : (relS scope sc).names.lookup z = some .cell := lookup_relS_keep (by intro w; cases w) hu
    refine ⟨.inr q, .inl ?_⟩
    show (scope.names.lookup z == some .cell) = true
    rw [hu]; rfl
  | free => cases e
  | globalExplicit => cases e
  | globalImplicit => cases e
section
variable {X : Cx} {ct : CTab} {Γ : G} {N : List Str} {sc scope : Scope} {tb : Tb} {elt tg iter : Expr} {ifs : List Expr} {A : E} {pos : Pos}
/-- for each block -/
def SndB (X : Cx) (ct : CTab) (Γ : G) (scope : Scope) (e : Expr) (A : E) : Prop := ∀ (s : Shared) (H : Hp) (C : Addr) (cl : List (Str × Addr)) (fp : List Addr), Snd (X.blk s H scope (compEnvC scope cl C X.env) fp) ct Γ e A
def SndTB (X : Cx) (ct : CTab) (Γ : G) (scope : Scope) (ifs : List Expr) (c : T) : Prop := (ifs = [] ∧ c = .yes) ∨ ∃ e, ifs = [e] ∧ ∀ (s : Shared) (H : Hp) (C : Addr) (cl : List (Str × Addr)) (fp : List Addr), SndT (X.blk s H scope (compEnvC scope cl C X.env) fp) ct Γ e c
def wEB (X : Cx) (scope : Scope) (e : Expr) : TE := fun σ H Q => ∀ s H0 C cl fp, wE (X.blk s H0 scope (compEnvC scope cl C X.env) fp) e σ H Q
def wTB (X : Cx) (scope : Scope) : List Expr → TT
  | [e] => fun σ H Q => ∀ s H0 C cl fp, wT (X.blk s H0 scope (compEnvC scope cl C X.env) fp) e σ H Q
  | _ => tYes
/-- a new list is handed on, kept out of the data so far -/
def OkN (K : PySem.W.Frag) (ct : CTab) (M : AM) (H : Hp) (r : Res PyI.D) (Q : VK) (W : XK) : Prop := match r with
  | .ok (.lst acc) μ2 => ∀ p H2 M2 accv, H p = none → Evo M H M2 H2 → RelH K ct H2 μ2 (M2.hide p) → H2 p = some (.lst accv) → Reps K H2 (M2.hide p) accv acc → Q (.ref p) H2
  | .ok _ _ => False
  | .err c fs μ' => ∀ cls d H' M', Evo M H M' H' → RelH K ct H' μ' M' → ErrRep K ct H' M' c fs cls d → W cls d H'
  | .stuck => False
theorem Evo.back {K : PySem.W.Frag} {ct : CTab} {H H' : Hp} {M M' : AM} {μ μ' : Mu} {p : Addr} (e : Evo M H M' H') (R : RelH K ct H μ M) (R' : RelH K ct H' μ' M') (h : H' p = none) : H p = none := by
  cases q : H p with
  | none => rfl
  | some o =>
    by_cases z : p ∈ M.ix
    · obtain ⟨n, hn, en⟩ := List.getElem_of_mem z
      have : M.ix[n]? = some p := by rw [List.getElem?_eq_getElem hn, en]
      exact absurd (List.mem_of_getElem? (e.pre n p this)) (R'.fresh h).1
    · rw [(e.keep p o q z).1] at h; cases h
theorem OkN.evo {K : PySem.W.Frag} {ct : CTab} {H H1 : Hp} {M M1 : AM} {μ μ1 : Mu} {r : Res PyI.D} {Q : VK} {W : XK} (e : Evo M H M1 H1) (R : RelH K ct H μ M) (R1 : RelH K ct H1 μ1 M1) (h : OkN K ct M H r Q W) : OkN K ct M1 H1 r Q W := by
  cases r with
  | stuck => exact h
  | err c fs μ' => exact fun cls d H' M' e' => h cls d H' M' (e.trans e')
  | ok d μ2 =>
    cases d with
    | lst acc => exact fun p H2 M2 accv hp e2 => h p H2 M2 accv (e.back R R1 hp) (e.trans e2)
    | _ => exact h
theorem Ok.toN {K : PySem.W.Frag} {ct : CTab} {H : Hp} {M : AM} {μ : Mu} {r : Res PyI.D} {Q : VK} {W : XK} (R : RelH K ct H μ M) (hl : ∀ d μ', r = .ok d μ' → ∃ l, d = .lst l) (h : Ok K ct (RD K) M H r Q W) : OkN K ct M H r Q W := by
  cases r with
  | stuck => exact h
  | err c fs μ' => exact h
  | ok d μ2 =>
    obtain ⟨l, rfl⟩ := hl d μ2 rfl
    intro p H2 M2 accv hp e2 R2 hp2 ra
    have hout : M2.out p := ⟨(R2.exs p (List.mem_cons_self ..)).2, by rw [e2.ex]; exact (R.fresh hp).2⟩
    exact h (.ref p) H2 M2 e2 R2.unhide (.lst (.inl ⟨.inl hp2, hout⟩) (ra.stay Stay.unhide))
theorem comp_noerr {f : D → Mu → Res (Option D)} {chk : Mu → Bool} : ∀ {ds acc : List D} {μ μ' : Mu} {c : Nat} {fs : List D}, compLoop f chk acc ds μ ≠ .err c fs μ'
  | [], acc, μ, μ', c, fs, h => by unfold compLoop at h; split at h <;> cases h
  | d :: ds, acc, μ, μ', c, fs, h => by
    unfold compLoop at h
    split at h
    · split at h
      · exact comp_noerr h
      · unfold needs at h
        split at h
        · exact comp_noerr h
        · cases h
      · cases h
    · cases h
theorem comp_core {W : WX} {ρ : Rho} {μ : Mu} {σ : St} {H : Hp} {M : AM} {Q : VK} {t : Tg} {it : IT} {c : T} (F : Fr X ct tb Γ N sc) (ok : BlkOk N sc scope (ownOf N scope)) (hset : isSet iter = false) (ht : resTg N ((ownOf N scope).map Prod.fst) tg = some t) (hsl : ∀ i ∈ slotsOf t, i ∈ (ownOf N scope).map Prod.snd)
    (hI : SndI X ct Γ tg iter it) (hc : SndTB X ct Γ scope ifs c) (he : SndB X ct Γ scope elt A) (tk : Takes X W) (E : RelE X.K H M σ ρ) (R : RelH X.K ct H μ M) (h : OkN X.K ct M H (evalE Γ (.comp ((ownOf N scope).map Prod.snd) t it c A) ρ μ) Q (fun c d H' => W c d σ H')) :
    tLc (wI X tg iter) (gOf X.K t) (wTB X scope ifs) (wEB X scope elt) ((ownOf N scope).map (·.2)) σ H Q := by
  unfold evalE at h
  have okI : Ok X.K ct (RJ X.K ct) M H (evalIt Γ it ρ μ) (fun J H1 => ∀ D, H1 D = none → ∃ W' : Nat → Nat → Hp → Prop, (∃ m, W' 0 m (upd H1 D (.lst []))) ∧ ∀ i m H, W' i m H →
  (J.stop i H ∧ Q (.ref D) H) ∨ (J.go i H ∧ ∃ Nx : Hp → Prop, (∀ H', Nx H' → ∃ m', m' < m ∧ W' (i + 1) m' H') ∧ ∀ x H', J.yld i H x H' → (gOf X.K t) x (wipe σ ((ownOf N scope).map (·.2))) H' fun σ2 H2 => wipe σ2 ((ownOf N scope).map (·.2)) = wipe σ ((ownOf N scope).map (·.2)) ∧ (wTB X scope ifs) σ2 H2 fun b H3 =>
    if b = true then (wEB X scope elt) σ2 H3 fun y H4 => ∃ acc, H4 D = some (.lst acc) ∧ acc.length < sizeLine ∧ Nx (upd H4 D (.lst (acc ++ [y]))) else Nx H3)) (fun c d H' => W c d σ H') := ?okI
  exact hI W ρ μ σ H M _ tk E R okI
  case okI =>
  cases hit : evalIt Γ it ρ μ with
  | stuck => rw [hit] at h; exact h.elim
  | err c fs μ' => rw [hit] at h; exact h
  | ok its μ1 =>
  rw [hit] at h
  intro J H1 M1 e1 R1 J1
  have h1 := OkN.evo e1 R R1 (show OkN X.K ct M H ((compLoop _ (chkOf its.2) [] its.1 μ1).bind fun l μ => .ok (.lst l) μ) Q _ from h)
  intro D hD
  have E1 := E.evo e1
  -- the loop's answer
  generalize hf : (fun (d : PyI.D) (μ : Mu) => match assignT t d (wipeR ρ ((ownOf N scope).map Prod.snd)) with
        | none => Res.stuck
        | some ρ' => (evalT Γ c ρ' μ).bind fun k μ => if k = true then (evalE Γ A ρ' μ).bind fun y μ => Res.ok (some y) μ else Res.ok none μ) = f at h1
  obtain ⟨ds, src⟩ := its
  generalize hr : compLoop f (chkOf src) [] ds μ1 = r at h1
  have hr0 : ∀ c fs μ', r ≠ .err c fs μ' := fun c fs μ' q => comp_noerr (hr.trans q)
  refine ⟨fun i m H2 => m = ds.length - i ∧ i ≤ ds.length ∧ ∃ (M2 : AM) (μ2 : Mu) (acc : List PyI.D) (accv : List V), Evo M1 H1 M2 H2 ∧ RelH X.K ct H2 μ2 (M2.hide D) ∧ H2 D = some (.lst accv) ∧ Reps X.K H2 (M2.hide D) accv acc ∧ compLoop f (chkOf src) acc (ds.drop i) μ2 = r, ⟨ds.length, rfl, Nat.zero_le _, M1, μ1, [], [], Evo.new hD, R1.hide hD, upd_same, .nil, by rw [List.drop_zero]; exact hr⟩, ?_⟩
  rintro i m H2 ⟨hm, hi, M2, μ2, acc, accv, e2, R2, hD2, ra, hloop⟩
  have st2 : Stay M1 H1 (M2.hide D) H2 := e2.stayHide hD
  rcases Nat.lt_or_ge i ds.length with hlt | hge
  · right
    have hdi : ds[i]? = some ds[i] := List.getElem?_eq_getElem hlt
    rw [List.drop_eq_getElem_cons hlt] at hloop
    unfold compLoop at hloop
    by_cases hck : chkOf src μ2 = true
    · rw [if_pos hck] at hloop
      obtain ⟨hgo, hy⟩ := J1.go (M2.hide D) H2 μ2 i ds[i] st2 R2 hck hdi
      refine ⟨hgo, fun H3 => ∃ m', m' < m ∧ (m' = ds.length - (i + 1) ∧ i + 1 ≤ ds.length ∧ ∃ (M2 : AM) (μ2 : Mu) (acc : List PyI.D) (accv : List V), Evo M1 H1 M2 H3 ∧ RelH X.K ct H3 μ2 (M2.hide D) ∧ H3 D = some (.lst accv) ∧ Reps X.K H3 (M2.hide D) accv acc ∧ compLoop f (chkOf src) acc (ds.drop (i + 1)) μ2 = r), fun H3 q => q, ?_⟩
      intro x H3 hx
      obtain ⟨rfl, rx⟩ := hy x H3 hx
      -- the target
      have Ew : RelE X.K H3 (M2.hide D) (wipe σ ((ownOf N scope).map Prod.snd)) (wipeR ρ ((ownOf N scope).map Prod.snd)) := (E1.stay st2).wipe _
      have hfd : f ds[i] μ2 = (match assignT t ds[i] (wipeR ρ ((ownOf N scope).map Prod.snd)) with
        | none => Res.stuck
        | some ρ' => (evalT Γ c ρ' μ2).bind fun k μ => if k = true then (evalE Γ A ρ' μ).bind fun y μ => Res.ok (some y) μ else Res.ok none μ) := by rw [← hf]
      rw [hfd] at hloop
      cases has : assignT t ds[i] (wipeR ρ ((ownOf N scope).map Prod.snd)) with
      | none => simp only [has] at hloop; rw [← hloop] at h1; exact (h1 : False).elim
      | some ρ' =>
        simp only [has] at hloop
        refine assign_ok rx Ew has fun σ2 E2 hw => ⟨?_, ?_⟩
        · rw [hw _ hsl]
          exact wipe_wipe
        -- the test
        have hT : ∀ (Q2 : Bool → Hp → Prop), (∀ k μ3, evalT Γ c ρ' μ2 = .ok k μ3 → ∀ H4 M4, Evo (M2.hide D) H3 M4 H4 → RelH X.K ct H4 μ3 M4 → Q2 k H4) → wTB X scope ifs σ2 H3 Q2 := by
          intro Q2 k2
          have okT : Ok X.K ct RB (M2.hide D) H3 (evalT Γ c ρ' μ2) Q2 (fun _ _ _ => False) := by
            cases hc2 : evalT Γ c ρ' μ2 with
            | stuck => rw [hc2] at hloop; simp only [Res.bind] at hloop; rw [← hloop] at h1; exact (h1 : False).elim
            | err _ _ _ => rw [hc2] at hloop; simp only [Res.bind] at hloop; rw [← hloop] at h1; exact (h1 : False).elim
            | ok k μ3 => exact fun v H4 M4 e4 R4 r4 => by cases r4; exact k2 _ μ3 hc2 H4 M4 e4 R4
          rcases hc with ⟨rfl, rfl⟩ | ⟨e, rfl, hcs⟩
          · exact Ok.ret (μ := μ2) okT R2 rfl
          · exact fun s H0 C cl fp => hcs s H0 C cl fp (fun _ _ _ _ => False) ρ' μ2 σ2 H3 (M2.hide D) Q2 takes0 E2 R2 okT
        refine hT _ fun k μ3 hk H4 M4 e4 R4 => ?_
        rw [hk] at hloop
        simp only [Res.bind] at hloop
        -- the block's addresses
        have split4 : ∃ M4', M4 = AM.hide M4' D := ⟨⟨M4.ix, M2.ex⟩, by cases M4; exact congrArg _ e4.ex⟩
        obtain ⟨M4', rfl⟩ := split4
        have e14 : Evo M1 H1 M4' H4 := e2.trans e4.unhide
        have hD4 : H4 D = some (.lst accv) := (e4.keep D _ hD2 (R2.exs D (List.mem_cons_self ..)).2).1
        cases k with
        | false =>
          simp only [Bool.false_eq_true, if_false] at hloop ⊢
          exact ⟨ds.length - (i + 1), by omega, rfl, hlt, M4', μ3, acc, accv, e14, R4, hD4, ra.evo e4, hloop⟩
        | true =>
          simp only [if_true] at hloop ⊢
          have okE : Ok X.K ct (RD X.K) (AM.hide M4' D) H4 (evalE Γ A ρ' μ3) (fun y H5 => ∃ acc, H5 D = some (.lst acc) ∧ acc.length < sizeLine ∧ ∃ m', m' < m ∧ (m' = ds.length - (i + 1) ∧ i + 1 ≤ ds.length ∧ ∃ (M2 : AM) (μ2 : Mu) (acc' : List PyI.D) (accv : List V), Evo M1 H1 M2 (upd H5 D (.lst (acc ++ [y]))) ∧ RelH X.K ct (upd H5 D (.lst (acc ++ [y]))) μ2 (M2.hide D) ∧ (upd H5 D (.lst (acc ++ [y]))) D = some (.lst accv) ∧ Reps X.K (upd H5 D (.lst (acc ++ [y]))) (M2.hide D) accv acc' ∧ compLoop f (chkOf src) acc' (ds.drop (i + 1)) μ2 = r)) (fun _ _ _ => False) := by
            cases hA : evalE Γ A ρ' μ3 with
            | stuck => rw [hA] at hloop; simp only [Res.bind] at hloop; rw [← hloop] at h1; exact (h1 : False).elim
            | err _ _ _ => rw [hA] at hloop; simp only [Res.bind] at hloop; rw [← hloop] at h1; exact (h1 : False).elim
            | ok y μ5 =>
              rw [hA] at hloop
              simp only [Res.bind] at hloop
              intro v H5 M5 e5 R5 r5
              have split5 : ∃ M5', M5 = AM.hide M5' D := ⟨⟨M5.ix, M4'.ex⟩, by cases M5; exact congrArg _ e5.ex⟩
              obtain ⟨M5', rfl⟩ := split5
              have hD5 : H5 D = some (.lst accv) := (e5.keep D _ hD4 (R4.exs D (List.mem_cons_self ..)).2).1
              have hacc : accv.length = acc.length := ra.length
              unfold needs at hloop
              by_cases hz : acc.length < 16777216
              · rw [if_pos hz] at hloop
                have hin : D ∈ (AM.hide M5' D).ex := List.mem_cons_self ..
                have sm : Stay (AM.hide M5' D) H5 (AM.hide M5' D) (upd H5 D (.lst (accv ++ [v]))) := Stay.mutEx hin
                exact ⟨accv, hD5, sl16' (by rw [hacc]; exact hz), ds.length - (i + 1), by omega, rfl, hlt, M5', μ5, acc ++ [y], accv ++ [v], (e14.trans e5.unhide).newEx hD, R5.mutEx hin, upd_same, ((((ra.evo e4).evo e5).append (Reps.one r5)).stay sm), hloop⟩
              · rw [if_neg hz] at hloop; rw [← hloop] at h1; exact (h1 : False).elim
          exact fun s H0 C cl fp => he s H0 C cl fp (fun _ _ _ _ => False) ρ' μ3 σ2 H4 (AM.hide M4' D) _ takes0 (E2.evo e4) R4 okE
    · rw [if_neg hck] at hloop; rw [← hloop] at h1; exact (h1 : False).elim
  · left
    have hie : i = ds.length := Nat.le_antisymm hi hge
    subst hie
    rw [List.drop_length] at hloop
    unfold compLoop at hloop
    by_cases hck : chkOf src μ2 = true
    · rw [if_pos hck] at hloop
      refine ⟨J1.stop (M2.hide D) H2 μ2 st2 R2 hck, ?_⟩
      rw [← hloop] at h1
      exact h1 D H2 M2 accv hD e2 R2 hD2 ra
    · rw [if_neg hck] at hloop; rw [← hloop] at h1; exact (h1 : False).elim
theorem comp_pts {c : T} (hc : SndTB X ct Γ scope ifs c) : ∀ (s : Shared) (H : Hp) (C : Addr) (cl : List (Str × Addr)) (fp : List Addr), PTs (X.blk s H scope (compEnvC scope cl C X.env) fp) ifs (wTB X scope ifs) := by
  intro s H C cl fp
  rcases hc with ⟨rfl, _⟩ | ⟨e, rfl, _⟩
  · exact pts_nil
  · refine pts_one ⟨fun pins s' σ H' Q' I q => q s H C cl fp pins s' I⟩
theorem comp_lst {own : List Nat} {t : Tg} {it : IT} {c : T} {ρ : Rho} {μ : Mu} {d : PyI.D} {μ' : Mu} (h : evalE Γ (.comp own t it c A) ρ μ = .ok d μ') : ∃ l, d = .lst l := by
  unfold evalE at h
  cases hit : evalIt Γ it ρ μ with
  | stuck => rw [hit] at h; cases h
  | err c fs μ' => rw [hit] at h; cases h
  | ok its μ1 =>
    rw [hit] at h
    simp only [Res.bind] at h
    split at h
    · cases h; exact ⟨_, rfl⟩
    · cases h
    · cases h
theorem snd_comp {t : Tg} {it : IT} {c : T} (F : Fr X ct tb Γ N sc) (ok : BlkOk N sc scope (ownOf N scope)) (hset : isSet iter = false) (ht : resTg N ((ownOf N scope).map Prod.fst) tg = some t) (hsl : ∀ i ∈ slotsOf t, i ∈ (ownOf N scope).map Prod.snd)
    (hI : SndI X ct Γ tg iter it) (hc : SndTB X ct Γ scope ifs c) (he : SndB X ct Γ scope elt A) : Snd X ct Γ (.ListComp elt [⟨tg, iter, ifs, 0⟩] scope pos) (.comp ((ownOf N scope).map Prod.snd) t it c A) := by
  intro W ρ μ σ H M Q tk E R h
  have okX : BlkOk X.N X.env.scope scope (ownOf N scope) := by rw [F.hN, F.hsc]; exact ok
  exact we (pe_lc (te := wEB X scope elt) (tt := wTB X scope ifs) (g := gOf X.K t) F.calm (by rw [F.hN]; exact F.nd) pI okX (fun s H C cl fp => tg_ok (F.blk ok s H C cl fp) (own_loc ok s H C cl fp) ht) (comp_pts hc) (fun s H C cl fp => ⟨fun pins s' σ H' Q' I q => q s H C cl fp pins s' I⟩) (set_iter hset))
    (comp_core F ok hset ht hsl hI hc he tk E R (h.toN R fun d μ' q => comp_lst q))
end
end PyI
/-! A11: the resolver is sound for expressions. -/
namespace PyI
open PySem L2
structure SndAt (ct : CTab) (Γ : G) (C : RC) (n : Nat) : Prop where
  e : ∀ (X : Cx) (sc : Scope) (e : Expr) (A : E), Fr X ct C.tb Γ C.N sc → resE n C sc e = some A → Snd X ct Γ e A
  and : ∀ (X : Cx) (sc : Scope) (es : List Expr) (pos : Pos) (A : E), Fr X ct C.tb Γ C.N sc → resAnd n C sc es = some A → Snd X ct Γ (.BoolOp .And es pos) A
  or : ∀ (X : Cx) (sc : Scope) (es : List Expr) (pos : Pos) (A : E), Fr X ct C.tb Γ C.N sc → resOr n C sc es = some A → Snd X ct Γ (.BoolOp .Or es pos) A
  es : ∀ (X : Cx) (sc : Scope) (es : List Expr) (A : Es), Fr X ct C.tb Γ C.N sc → resEs n C sc es = some A → SndA X ct Γ es A ∧ es.all (fun e => !star e) = true ∧ (es = [] → A = .nil)
  o : ∀ (X : Cx) (sc : Scope) (o : Option Expr) (A : O), Fr X ct C.tb Γ C.N sc → resO n C sc o = some A → SndO X ct Γ o A
  t : ∀ (X : Cx) (sc : Scope) (e : Expr) (A : T), Fr X ct C.tb Γ C.N sc → resT n C sc e = some A → SndT X ct Γ e A
  tand : ∀ (X : Cx) (sc : Scope) (es : List Expr) (pos : Pos) (A : T), Fr X ct C.tb Γ C.N sc → resTAnd n C sc es = some A → SndW X ct Γ (.BoolOp .And es pos) A
  tor : ∀ (X : Cx) (sc : Scope) (es : List Expr) (pos : Pos) (A : T), Fr X ct C.tb Γ C.N sc → resTOr n C sc es = some A → SndW X ct Γ (.BoolOp .Or es pos) A
  i : ∀ (X : Cx) (sc : Scope) (tg e : Expr) (A : IT), Fr X ct C.tb Γ C.N sc → resI n C sc e = some A → SndI X ct Γ tg e A
theorem pe_or1 {X : Cx} {op : BoolOp} {a : Expr} {pos : Pos} {ct : CTab} {Γ : G} {A : E} (h : Snd X ct Γ a A) : Snd X ct Γ (.BoolOp op [a] pos) A := by
  intro W ρ μ σ H M Q tk E R k
  exact we (pe_one pE) (h W ρ μ σ H M Q tk E R k)
theorem sndAt (ct : CTab) (Γ : G) (C : RC) : ∀ n, SndAt ct Γ C n
  | 0 => by constructor <;> intros <;> rename_i h <;> first | (unfold resE at h; cases h) | (unfold resAnd at h; cases h) | (unfold resOr at h; cases h) | (unfold resEs at h; cases h) | (unfold resO at h; cases h) | (unfold resT at h; cases h) | (unfold resTAnd at h; cases h) | (unfold resTOr at h; cases h) | (unfold resI at h; cases h)
  | n + 1 => by
    have ih := sndAt ct Γ C n
    constructor
    case e =>
      intro X sc e A F h
      unfold resE at h
      split at h
      · cases h; exact snd_cst pe_int fun _ _ => .int _
      · cases h; exact snd_cst pe_bl fun _ _ => .bl _
      · cases h; exact snd_cst pe_non fun _ _ => .non
      · cases h; exact snd_cst pe_str fun _ _ => .str _
      · obtain ⟨hd, h⟩ := guardO_some h
        split at h
        · rename_i hv
          obtain ⟨i, hi, rfl⟩ := Option.map_eq_some_iff.mp h
          exact snd_var F (ixOf_get hi) hv hd
        · obtain ⟨hg, h⟩ := guardO_some h
          obtain ⟨i, hi, rfl⟩ := Option.map_eq_some_iff.mp h
          exact snd_glob F (ixOf_get hi) hg hd
      · obtain ⟨o, ho, h⟩ := Option.bind_eq_some_iff.mp h
        obtain ⟨A1, hA, h⟩ := Option.bind_eq_some_iff.mp h
        obtain ⟨B1, hB, rfl⟩ := Option.map_eq_some_iff.mp h
        exact snd_bin ho (ih.e X sc _ _ F hA) (ih.e X sc _ _ F hB)
      · obtain ⟨A1, hA, rfl⟩ := Option.map_eq_some_iff.mp h
        exact snd_neg (ih.e X sc _ _ F hA)
      · obtain ⟨A1, hA, rfl⟩ := Option.map_eq_some_iff.mp h
        exact snd_notv (ih.e X sc _ _ F hA)
      · exact ih.and X sc _ _ _ F h
      · exact ih.or X sc _ _ _ F h
      · split at h
        · next g hg =>
          obtain ⟨x, p2, he, h1, h2, h3⟩ := dicOf_eq hg
          obtain ⟨neg, hn, h⟩ := Option.bind_eq_some_iff.mp h
          obtain ⟨A1, hA, rfl⟩ := Option.map_eq_some_iff.mp h
          rw [he, inOp_eq hn]
          exact snd_gin F h1 h2 h3 (ih.e X sc _ _ F hA)
        obtain ⟨hs, h⟩ := guardO_some h
        obtain ⟨A1, hA, h⟩ := Option.bind_eq_some_iff.mp h
        obtain ⟨B1, hB, rfl⟩ := Option.map_eq_some_iff.mp h
        exact snd_cmp F (by simpa using hs) (ih.e X sc _ _ F hA) (ih.e X sc _ _ F hB)
      · obtain ⟨hs, h⟩ := guardO_some h
        obtain ⟨A1, hA, h⟩ := Option.bind_eq_some_iff.mp h
        obtain ⟨B1, hB, h⟩ := Option.bind_eq_some_iff.mp h
        obtain ⟨C1, hC, rfl⟩ := Option.map_eq_some_iff.mp h
        exact snd_chn F (by simp at hs; exact hs.2) (ih.e X sc _ _ F hA) (ih.e X sc _ _ F hB) (ih.e X sc _ _ F hC)
      · obtain ⟨T1, hT, h⟩ := Option.bind_eq_some_iff.mp h
        obtain ⟨A1, hA, h⟩ := Option.bind_eq_some_iff.mp h
        obtain ⟨B1, hB, rfl⟩ := Option.map_eq_some_iff.mp h
        exact snd_ite (ih.t X sc _ _ F hT) (ih.e X sc _ _ F hA) (ih.e X sc _ _ F hB)
      · rename_i f p args pos
        obtain ⟨hg, h⟩ := guardO_some h
        simp only [Bool.and_eq_true] at hg
        split at h
        · rename_i i k hf
          obtain ⟨hl, h⟩ := guardO_some h
          obtain ⟨A1, hA, rfl⟩ := Option.map_eq_some_iff.mp h
          simp only [Bool.and_eq_true, beq_iff_eq, Bool.not_eq_true'] at hl
          obtain ⟨s1, s2, _⟩ := ih.es X sc _ _ F hA
          cases args with
          | nil => simp at hl
          | cons a as => exact snd_call F hg.1 hg.2 (fnOf_get hf) s2 s1
        · split at h
          · next hi =>
            obtain ⟨q, hq, h⟩ := Option.bind_eq_some_iff.mp h
            obtain ⟨p2, hp⟩ := isiArgs_eq hq
            obtain ⟨hg2, h⟩ := guardO_some h
            simp only [Bool.and_eq_true, Bool.not_eq_true'] at hg2
            obtain ⟨ty, ht, h⟩ := Option.bind_eq_some_iff.mp h
            obtain ⟨A1, hA, rfl⟩ := Option.map_eq_some_iff.mp h
            rw [hp, hi]
            exact snd_isi F (by rw [← hi]; exact hg.2) hg2.1.1 hg2.1.2 ht hg2.2 (ih.e X sc _ _ F hA)
          · obtain ⟨hl, h⟩ := guardO_some h
            obtain ⟨b, hb, h⟩ := Option.bind_eq_some_iff.mp h
            obtain ⟨A1, hA, rfl⟩ := Option.map_eq_some_iff.mp h
            obtain ⟨s1, s2, _⟩ := ih.es X sc _ _ F hA
            cases args with
            | nil => simp at hl
            | cons a as => exact snd_bif F hg.1 hg.2 hb s2 s1
      · obtain ⟨hg, h⟩ := guardO_some h
        simp only [Bool.and_eq_true] at hg
        split at h
        · next hm =>
          obtain ⟨q, hq, h⟩ := Option.bind_eq_some_iff.mp h
          obtain ⟨p2, hp⟩ := trArgs_eq hq
          obtain ⟨ht, h⟩ := guardO_some h
          obtain ⟨A1, hA, rfl⟩ := Option.map_eq_some_iff.mp h
          rw [hp, hm]
          exact snd_tr37 F hg.1 hg.2 ht (ih.e X sc _ _ F hA)
        · obtain ⟨hn, h⟩ := guardO_some h
          obtain ⟨m, hm, h⟩ := Option.bind_eq_some_iff.mp h
          obtain ⟨A1, hA, h⟩ := Option.bind_eq_some_iff.mp h
          obtain ⟨As, hAs, rfl⟩ := Option.map_eq_some_iff.mp h
          obtain ⟨s1, s2, s3⟩ := ih.es X sc _ _ F hAs
          exact snd_met hg.1 hg.2 (of_decide_eq_true hn) hm s2 s3 (ih.e X sc _ _ F hA) s1
      · obtain ⟨A1, hA, h⟩ := Option.bind_eq_some_iff.mp h
        obtain ⟨L1, hL, h⟩ := Option.bind_eq_some_iff.mp h
        obtain ⟨U1, hU, rfl⟩ := Option.map_eq_some_iff.mp h
        exact snd_slc (ih.e X sc _ _ F hA) (ih.o X sc _ _ F hL) (ih.o X sc _ _ F hU)
      · obtain ⟨hs, h⟩ := guardO_some h
        split at h
        · next g hg =>
          obtain ⟨x, p2, he, h1, h2, h3⟩ := dicOf_eq hg
          obtain ⟨B1, hB, rfl⟩ := Option.map_eq_some_iff.mp h
          rw [he]
          exact snd_gdict F (by simpa using hs) h1 h2 h3 (ih.e X sc _ _ F hB)
        obtain ⟨A1, hA, h⟩ := Option.bind_eq_some_iff.mp h
        obtain ⟨B1, hB, rfl⟩ := Option.map_eq_some_iff.mp h
        exact snd_idx (by simpa using hs) (ih.e X sc _ _ F hA) (ih.e X sc _ _ F hB)
      · obtain ⟨A1, hA, rfl⟩ := Option.map_eq_some_iff.mp h
        exact snd_tup (ih.es X sc _ _ F hA).1
      · obtain ⟨A1, hA, rfl⟩ := Option.map_eq_some_iff.mp h
        exact snd_lst (ih.es X sc _ _ F hA).1
      · rename_i elt tg iter ifs scope pos
        obtain ⟨hb, h⟩ := guardO_some h
        simp only [Bool.and_eq_true, Bool.not_eq_true'] at hb
        obtain ⟨t, ht, h⟩ := Option.bind_eq_some_iff.mp h
        obtain ⟨hsl, h⟩ := guardO_some h
        obtain ⟨it, hit, h⟩ := Option.bind_eq_some_iff.mp h
        obtain ⟨c, hc, h⟩ := Option.bind_eq_some_iff.mp h
        obtain ⟨A1, hA, rfl⟩ := Option.map_eq_some_iff.mp h
        have ok := blkOk_by hb.1
        refine snd_comp F ok hb.2 ht (fun i hi => of_decide_eq_true (List.all_eq_true.mp hsl i hi)) (ih.i X sc _ _ _ F hit) ?_ fun s H C' cl fp => ih.e _ _ _ _ (F.blk ok s H C' cl fp) hA
        split at hc
        · cases hc; exact .inl ⟨rfl, rfl⟩
        · exact .inr ⟨_, rfl, fun s H C' cl fp => ih.t _ _ _ _ (F.blk ok s H C' cl fp) hc⟩
        · cases hc
      · cases h
    case and =>
      intro X sc es pos A F h
      unfold resAnd at h
      split at h
      · exact pe_or1 (ih.e X sc _ _ F h)
      · obtain ⟨A1, hA, h⟩ := Option.bind_eq_some_iff.mp h
        obtain ⟨B1, hB, rfl⟩ := Option.map_eq_some_iff.mp h
        exact snd_and (ih.e X sc _ _ F hA) (ih.and X sc _ _ _ F hB)
      · cases h
    case or =>
      intro X sc es pos A F h
      unfold resOr at h
      split at h
      · exact pe_or1 (ih.e X sc _ _ F h)
      · obtain ⟨A1, hA, h⟩ := Option.bind_eq_some_iff.mp h
        obtain ⟨B1, hB, rfl⟩ := Option.map_eq_some_iff.mp h
        exact snd_or (ih.e X sc _ _ F hA) (ih.or X sc _ _ _ F hB)
      · cases h
    case es =>
      intro X sc es A F h
      unfold resEs at h
      split at h
      · cases h; exact ⟨sndA_nil, rfl, fun _ => rfl⟩
      · obtain ⟨hs, h⟩ := guardO_some h
        obtain ⟨A1, hA, h⟩ := Option.bind_eq_some_iff.mp h
        obtain ⟨B1, hB, rfl⟩ := Option.map_eq_some_iff.mp h
        obtain ⟨s1, s2, _⟩ := ih.es X sc _ _ F hB
        refine ⟨sndA_cons (by simpa using hs) (ih.e X sc _ _ F hA) s1, ?_, fun z => by cases z⟩
        rw [List.all_cons, hs, s2]; rfl
    case o =>
      intro X sc o A F h
      unfold resO at h
      split at h
      · cases h; exact sndO_none
      · obtain ⟨A1, hA, rfl⟩ := Option.map_eq_some_iff.mp h
        exact sndO_some (ih.e X sc _ _ F hA)
    case t =>
      intro X sc e A F h
      unfold resT at h
      split at h
      · obtain ⟨A1, hA, rfl⟩ := Option.map_eq_some_iff.mp h
        exact sndT_not (ih.t X sc _ _ F hA)
      · exact sndT_w (ih.tand X sc _ _ _ F h)
      · exact sndT_w (ih.tor X sc _ _ _ F h)
      · split at h
        · next g hg =>
          obtain ⟨x, p2, he, h1, h2, h3⟩ := dicOf_eq hg
          obtain ⟨neg, hn, h⟩ := Option.bind_eq_some_iff.mp h
          obtain ⟨A1, hA, rfl⟩ := Option.map_eq_some_iff.mp h
          rw [he, inOp_eq hn]
          exact sndT_gin F h1 h2 h3 (ih.e X sc _ _ F hA)
        obtain ⟨hs, h⟩ := guardO_some h
        obtain ⟨A1, hA, h⟩ := Option.bind_eq_some_iff.mp h
        obtain ⟨B1, hB, rfl⟩ := Option.map_eq_some_iff.mp h
        exact sndT_cmp F (by simpa using hs) (ih.e X sc _ _ F hA) (ih.e X sc _ _ F hB)
      · obtain ⟨hs, h⟩ := guardO_some h
        obtain ⟨A1, hA, h⟩ := Option.bind_eq_some_iff.mp h
        obtain ⟨B1, hB, h⟩ := Option.bind_eq_some_iff.mp h
        obtain ⟨C1, hC, rfl⟩ := Option.map_eq_some_iff.mp h
        exact sndT_chn F (by simp at hs; exact hs.2) (ih.e X sc _ _ F hA) (ih.e X sc _ _ F hB) (ih.e X sc _ _ F hC)
      · obtain ⟨hp, h⟩ := guardO_some h
        obtain ⟨A1, hA, rfl⟩ := Option.map_eq_some_iff.mp h
        exact sndT_val hp (ih.e X sc _ _ F hA)
    case tand =>
      intro X sc es pos A F h
      unfold resTAnd at h
      split at h
      · exact sndW_and1 (ih.t X sc _ _ F h)
      · obtain ⟨A1, hA, h⟩ := Option.bind_eq_some_iff.mp h
        obtain ⟨B1, hB, rfl⟩ := Option.map_eq_some_iff.mp h
        exact sndW_and (ih.t X sc _ _ F hA) (ih.tand X sc _ _ _ F hB)
      · cases h
    case tor =>
      intro X sc es pos A F h
      unfold resTOr at h
      split at h
      · exact sndW_or1 (ih.t X sc _ _ F h)
      · obtain ⟨A1, hA, h⟩ := Option.bind_eq_some_iff.mp h
        obtain ⟨B1, hB, rfl⟩ := Option.map_eq_some_iff.mp h
        exact sndW_or (ih.t X sc _ _ F hA) (ih.tor X sc _ _ _ F hB)
      · cases h
    case i =>
      intro X sc tg e A F h
      unfold resI at h
      split at h
      · split at h
        · rename_i hr
          subst hr
          obtain ⟨hg, h⟩ := guardO_some h
          split at h
          · obtain ⟨hs, h⟩ := guardO_some h
            obtain ⟨A1, hA, rfl⟩ := Option.map_eq_some_iff.mp h
            exact sndI_rng1 F hg (by simpa using hs) (ih.e X sc _ _ F hA)
          · obtain ⟨hs, h⟩ := guardO_some h
            obtain ⟨A1, hA, h⟩ := Option.bind_eq_some_iff.mp h
            obtain ⟨B1, hB, rfl⟩ := Option.map_eq_some_iff.mp h
            simp only [Bool.and_eq_true, Bool.not_eq_true'] at hs
            exact sndI_rng2 F hg hs.1 hs.2 (ih.e X sc _ _ F hA) (ih.e X sc _ _ F hB)
          · cases h
        · obtain ⟨A1, hA, rfl⟩ := Option.map_eq_some_iff.mp h
          exact sndI_seq (ih.e X sc _ _ F hA)
      · obtain ⟨hs, h⟩ := guardO_some h
        obtain ⟨A1, hA, rfl⟩ := Option.map_eq_some_iff.mp h
        exact sndI_seq (ih.e X sc _ _ F hA)
end PyI
/-! A12: statements. -/
namespace PyI
open PySem L2
def isComp : Expr → Bool
  | .ListComp _ _ _ _ => true
  | .SetComp _ _ _ _ => true
  | .DictComp _ _ _ _ _ => true
  | _ => false
def isTup : Expr → Bool
  | .Tuple _ _ _ => true
  | _ => false
theorem sw_plain {e : Expr} {t : Option Expr} {l : Nat} {env : Env} (h : isComp e = false) : swapsWith e t l env = pure false := by
  cases e <;> first | rfl | (simp [isComp] at h)
theorem sw_sole {e t : Expr} {l : Nat} {env : Env} (h : isComp e = false) : swapsWithSole [t] e l env = pure false := by
  unfold swapsWithSole
  exact sw_plain h
theorem sw_stores {ts : List Expr} {e : Expr} {env : Env} (h : isTup e = false) : swappedStores ts e env = pure none := by
  unfold swappedStores
  split
  · rename_i q
    exfalso
    revert q
    split
    · simp [isTup] at h
    · simp [isTup] at h
    · intro q; cases q
  · rfl
def swB (sc scope : Scope) (x : Str) (px pos : Pos) : Bool := (sc.names.lookup x == some .local) && (px.line == pos.line) && !(scope.names.any fun (n, k) => n == x && (k == .local || k == .cell))
theorem sw_comp {elt : Expr} {gs : List Comprehension} {scope sc : Scope} {x : Str} {px pos : Pos} {l : Nat} {env : Env} (hk : env.scope.kind = .function) (hsc : env.scope = sc) :
    swapsWith (.ListComp elt gs scope pos) (some (.Name x px)) l env = pure (swB sc scope x px pos) := by
  have hb : env.blockKind = .function := by unfold Env.blockKind; rw [hk]; rfl
  unfold swapsWith swB
  subst hsc
  simp only [hb, Expr.pos]
  rfl
/-- what follows of a block's end -/
def OkS (K : PySem.W.Frag) (ct : CTab) (M : AM) (H : Hp) (o : Out) (D : Ends) (W : WX) : Prop := match o with
  | .nx ρ μ => ∀ σ' H' M', Evo M H M' H' → RelH K ct H' μ M' → RelE K H' M' σ' ρ → D.nx σ' H'
  | .br ρ μ => ∀ σ' H' M', Evo M H M' H' → RelH K ct H' μ M' → RelE K H' M' σ' ρ → D.bk σ' H'
  | .ct ρ μ => ∀ σ' H' M', Evo M H M' H' → RelH K ct H' μ M' → RelE K H' M' σ' ρ → D.ct σ' H'
  | .rt d μ => ∀ v H' M', Evo M H M' H' → RelH K ct H' μ M' → Rep K H' M' v d → D.rt v H'
  | .er c fs ρ μ => ∀ cls d σ' H' M', Evo M H M' H' → RelH K ct H' μ M' → RelE K H' M' σ' ρ → ErrRep K ct H' M' c fs cls d → W cls d σ' H'
  | .stuck => False
section
variable {K : PySem.W.Frag} {ct : CTab} {M M1 : AM} {H H1 : Hp} {o : Out} {D D' : Ends} {W : WX} {μ : Mu} {ρ : Rho} {σ : St}
theorem OkS.evo (e : Evo M H M1 H1) (h : OkS K ct M H o D W) : OkS K ct M1 H1 o D W := by
  cases o with
  | nx ρ μ => exact fun σ' H' M' e' => h σ' H' M' (e.trans e')
  | br ρ μ => exact fun σ' H' M' e' => h σ' H' M' (e.trans e')
  | ct ρ μ => exact fun σ' H' M' e' => h σ' H' M' (e.trans e')
  | rt d μ => exact fun v H' M' e' => h v H' M' (e.trans e')
  | er c fs ρ μ => exact fun cls d σ' H' M' e' => h cls d σ' H' M' (e.trans e')
  | stuck => exact h
theorem OkS.step {α β : Type} {R : Hp → AM → β → α → Prop} {r : Res α} {f : α → Mu → Out} {Q : β → Hp → Prop} (h : OkS K ct M H (r.then ρ f) D W) (E : RelE K H M σ ρ)
    (k : ∀ a μ1 v H1 M1, Evo M H M1 H1 → RelH K ct H1 μ1 M1 → R H1 M1 v a → OkS K ct M1 H1 (f a μ1) D W → Q v H1) : Ok K ct R M H r Q (fun c d H' => W c d σ H') := by
  cases r with
  | ok a μ' => exact fun v H' M' e R1 r1 => k a μ' v H' M' e R1 r1 (OkS.evo e h)
  | err c fs μ' => exact fun cls d H' M' e R1 r1 => h cls d σ H' M' e R1 (E.evo e) r1
  | stuck => exact h
theorem OkS.nxt (h : OkS K ct M H (.nx ρ μ) D W) (R : RelH K ct H μ M) (E : RelE K H M σ ρ) : D.nx σ H := h σ H M (Evo.refl M H) R E
/-- another end -/
theorem OkS.seq {f : Rho → Mu → Out} (h : OkS K ct M H (o.next f) D W) (h1 : D'.rt = D.rt) (h2 : D'.bk = D.bk) (h3 : D'.ct = D.ct)
    (k : ∀ ρ μ σ' H' M', Evo M H M' H' → RelH K ct H' μ M' → RelE K H' M' σ' ρ → OkS K ct M' H' (f ρ μ) D W → D'.nx σ' H') : OkS K ct M H o D' W := by
  cases o with
  | nx ρ μ => exact fun σ' H' M' e R E => k ρ μ σ' H' M' e R E (OkS.evo e h)
  | br ρ μ => exact fun σ' H' M' e R E => by rw [h2]; exact h σ' H' M' e R E
  | ct ρ μ => exact fun σ' H' M' e R E => by rw [h3]; exact h σ' H' M' e R E
  | rt d μ => exact fun v H' M' e R r => by rw [h1]; exact h v H' M' e R r
  | er c fs ρ μ => exact h
  | stuck => exact h
end
def wS (τ : Bool) (X : Cx) (st : Stmt) : TS := fun D σ H => ∀ pins s, (τ = true → 1 ≤ s.toks) → Inv X pins σ H s → wpAny (model X.prog X.w) X.A (exec st X.env) (SP X pins D) X.xe s
def wB (τ : Bool) (X : Cx) (st : List Stmt) : TS := fun D σ H => ∀ pins s, (τ = true → 1 ≤ s.toks) → Inv X pins σ H s → wpAny (model X.prog X.w) X.A (execs st X.env) (SP X pins D) X.xe s
section
variable {τ : Bool} {X : Cx} {st : Stmt} {sts : List Stmt} {D : Ends} {σ : St} {H : Hp}
theorem ws {t : TS} (p : PS X st t) (h : t D σ H) : wS τ X st D σ H := fun pins s _ I => p.run pins s σ H D I h
end
structure FrS (X : Cx) (ct : CTab) (tb : Tb) (Γ : G) (N : List Str) (sc : Scope) (loc : List Str) : Prop where
  f : Fr X ct tb Γ N sc
  l : FnLoc X sc loc
  po : PassesOwn (model X.prog X.w) X.A X.env X.xe
def SndS (τ : Bool) (X : Cx) (ct : CTab) (Γ : G) (st : Stmt) (A : S) : Prop := ∀ (W : WX) (ρ : Rho) (μ : Mu) (σ : St) (H : Hp) (M : AM) (D : Ends), Takes X W → RelE X.K H M σ ρ → RelH X.K ct H μ M →
  OkS X.K ct M H (runS Γ A ρ μ) D W → wS τ X st D σ H
def SndBk (τ : Bool) (X : Cx) (ct : CTab) (Γ : G) (st : List Stmt) (A : B) : Prop := ∀ (W : WX) (ρ : Rho) (μ : Mu) (σ : St) (H : Hp) (M : AM) (D : Ends), Takes X W → RelE X.K H M σ ρ → RelH X.K ct H μ M →
  OkS X.K ct M H (runB Γ A ρ μ) D W → wB τ X st D σ H
section
variable {τ : Bool} {X : Cx} {ct : CTab} {Γ : G} {N loc : List Str} {sc : Scope} {tb : Tb} {e a b o i v tg : Expr} {A B' C' : E} {t : T} {pos px : Pos} {x : Str} {k : Nat} {st : Stmt} {sts body : List Stmt} {SA : S} {BA BB : B}
theorem sndS_bad : SndS τ X ct Γ st .bad := by
  intro W ρ μ σ H M D tk E R h
  unfold runS at h
  exact h.elim
/-- x = e -/
theorem sndS_set (F : FrS X ct tb Γ N sc loc) (hx : x ∈ loc) (hi : N[k]? = some x) (hc : isComp e = false) (he : Snd X ct Γ e A) : SndS τ X ct Γ (.Assign [.Name x px] e pos) (.set (.nm k) A) := by
  intro W ρ μ σ H M D tk E R h
  unfold runS at h
  refine ws (ps_set (by rw [F.f.hN]; exact F.f.nd) (by rw [F.f.hN]; exact hi) (by rw [F.f.hsc]; exact (F.l x hx).1) pE (sw_plain hc) (by rw [F.f.hsc]; exact (F.l x hx).2)) ?_
  refine he W ρ μ σ H M _ tk E R (h.step E fun d μ1 v H1 M1 e1 R1 r1 h1 => ?_)
  exact h1.nxt R1 ((E.evo e1).set r1 k)
/-- a, b = e -/
theorem sndS_tup {es : List Expr} {kk : Nat} {l : List Nat} (F : FrS X ct tb Γ N sc loc) (hl : resNames N loc es = some l) (hc : isComp e = false) (ht : isTup e = false) (he : Snd X ct Γ e A) : SndS τ X ct Γ (.Assign [.Tuple es kk px] e pos) (.set (.tp l) A) := by
  intro W ρ μ σ H M D tk E R h
  unfold runS at h
  have pg : PG X (.Tuple es kk px) (gOf X.K (.tp l)) := tg_ok F.f F.l (by show Option.map Tg.tp (resNames N loc es) = _; rw [hl]; rfl)
  refine ws (ps_asg pE pg (sw_sole hc) (sw_stores ht)) ?_
  refine he W ρ μ σ H M _ tk E R (h.step E fun d μ1 v H1 M1 e1 R1 r1 h1 => ?_)
  split at h1
  · rename_i ρ' ha
    exact assign_ok r1 (E.evo e1) ha fun σ' E' _ => h1.nxt R1 E'
  · exact h1.elim
/-- o[i] = v -/
theorem sndS_setIx (F : FrS X ct tb Γ N sc loc) (hs : isSlc i = false) (hc : isComp v = false) (hv : Snd X ct Γ v C') (ho : Snd X ct Γ o A) (hi : Snd X ct Γ i B') : SndS τ X ct Γ (.Assign [.Subscript o i px] v pos) (.setIx A B' C') := by
  intro W ρ μ σ H M D tk E R h
  unfold runS at h
  have pg : PG X (.Subscript o i px) (gSub (wE X o) (wE X i) rSetL) := pg_sub pE pE set_list (fun v => by cases i <;> first | rfl | skip; rename_i s _; cases s <;> first | rfl | (simp [isSlc] at hs))
  have hw : swappedStores [.Subscript o i px] v X.env = pure none := by
    unfold swappedStores
    split
    · rename_i q; simp at q
    · rfl
  refine ws (ps_asg pE pg (sw_sole hc) hw) ?_
  refine hv W ρ μ σ H M _ tk E R (h.step E fun d μ1 vv H1 M1 e1 R1 r1 h1 => ?_)
  have E1 := E.evo e1
  refine ho W ρ μ1 σ H1 M1 _ tk E1 R1 (h1.step E1 fun d2 μ2 ov H2 M2 e2 R2 r2 h2 => ?_)
  have E2 := E1.evo e2
  refine hi W ρ μ2 σ H2 M2 _ tk E2 R2 (h2.step E2 fun d3 μ3 iv H3 M3 e3 R3 r3 h3 => ?_)
  have E3 := E2.evo e3
  unfold setIxD at h3
  split at h3
  · rename_i n kk
    cases r3
    split at h3
    · rename_i l hl
      split at h3
      · rename_i j hj
        have r2' := r2.evo e3
        cases r2' with
        | ref ha =>
          obtain ⟨xs, hh, rx⟩ := R3.lst hl ha
          have em : Evo M3 H3 M3 (upd H3 _ (.lst (xs.set j vv))) := Evo.mut (List.mem_of_getElem? ha)
          refine ⟨_, xs, _, j, rfl, rfl, hh, by rw [rx.length]; exact hj, ?_⟩
          have r1' := (r1.evo e2).evo e3
          exact (h3 : OkS X.K ct M3 H3 (.nx ρ _) D W) σ _ M3 em (R3.mut ha ⟨_, upd_same, Reps.set (r1'.evo em) j (rx.evo em)⟩) (E3.evo em)
      · exact (h3 : False).elim
    · exact (h3 : False).elim
  · exact (h3 : False).elim
theorem sndS_expr (hc : isComp e = false) (he : Snd X ct Γ e A) : SndS τ X ct Γ (.Expr e pos) (.expr A) := by
  intro W ρ μ σ H M D tk E R h
  unfold runS at h
  refine ws (ps_expr pE (sw_plain hc)) ?_
  refine he W ρ μ σ H M _ tk E R (h.step E fun d μ1 v H1 M1 e1 R1 r1 h1 => ?_)
  exact h1.nxt R1 (E.evo e1)
theorem sndS_ret (he : Snd X ct Γ e A) : SndS τ X ct Γ (.Return (some e) pos) (.ret A) := by
  intro W ρ μ σ H M D tk E R h
  unfold runS at h
  refine ws (ps_ret pE) ?_
  refine he W ρ μ σ H M _ tk E R (h.step E fun d μ1 v H1 M1 e1 R1 r1 h1 => ?_)
  exact h1 v H1 M1 (Evo.refl _ _) R1 r1
theorem sndS_retN : SndS τ X ct Γ (.Return none pos) .retN := by
  intro W ρ μ σ H M D tk E R h
  unfold runS at h
  exact ws ps_retN (h .non H M (Evo.refl _ _) R .non)
theorem sndS_pass : SndS τ X ct Γ (.Pass pos) .pass := by
  intro W ρ μ σ H M D tk E R h
  unfold runS at h
  exact ws ps_pass (h.nxt R E)
theorem sndS_brk : SndS τ X ct Γ (.Break pos) .brk := by
  intro W ρ μ σ H M D tk E R h
  unfold runS at h
  exact ws ps_break (h σ H M (Evo.refl _ _) R E)
theorem sndS_cnt : SndS τ X ct Γ (.Continue pos) .cnt := by
  intro W ρ μ σ H M D tk E R h
  unfold runS at h
  exact ws ps_continue (h σ H M (Evo.refl _ _) R E)
/-- x += e -/
theorem sndS_aug {op : Operator} {bo : Bop} (F : FrS X ct tb Γ N sc loc) (hx : x ∈ loc) (hi : N[k]? = some x) (hb : (op = .Add ∧ bo = .add) ∨ (op = .Sub ∧ bo = .sub)) (he : Snd X ct Γ e A) : SndS τ X ct Γ (.AugAssign (.Name x px) op e pos) (.aug k bo A) := by
  intro W ρ μ σ H M En tk E R h
  unfold runS at h
  split at h
  · rename_i z hz
    obtain ⟨vz, h1, r⟩ := E.at_ k _ hz
    cases r
    rcases hb with ⟨rfl, rfl⟩ | ⟨rfl, rfl⟩
    · refine ws (ps_aug (by rw [F.f.hN]; exact F.f.nd) (by rw [F.f.hN]; exact hi) (by rw [F.f.hsc]; exact (F.l x hx).1) pE ip_add (by rw [F.f.hsc]; exact (F.l x hx).2)) ?_
      refine ⟨_, h1, ?_⟩
      refine he W ρ μ σ H M _ tk E R (h.step E fun d μ1 v H1 M1 e1 R1 r1 h1 => ?_)
      cases r1 with
      | int j => exact ⟨z, j, rfl, rfl, OkS.nxt (μ := μ1) h1 R1 ((E.evo e1).set (.int _) k)⟩
      | _ => exact (h1 : False).elim
    · refine ws (ps_aug (by rw [F.f.hN]; exact F.f.nd) (by rw [F.f.hN]; exact hi) (by rw [F.f.hsc]; exact (F.l x hx).1) pE ip_sub (by rw [F.f.hsc]; exact (F.l x hx).2)) ?_
      refine ⟨_, h1, ?_⟩
      refine he W ρ μ σ H M _ tk E R (h.step E fun d μ1 v H1 M1 e1 R1 r1 h1 => ?_)
      cases r1 with
      | int j => exact ⟨z, j, rfl, rfl, OkS.nxt (μ := μ1) h1 R1 ((E.evo e1).set (.int _) k)⟩
      | _ => exact (h1 : False).elim
  · exact h.elim
end
end PyI
/-! A13: statements: new lists, replace, blocks, loops. -/
namespace PyI
open PySem L2
section
variable {τ : Bool} {X : Cx} {ct : CTab} {Γ : G} {N loc : List Str} {sc scope : Scope} {tb : Tb} {e a b o i v tg elt iter c : Expr} {es ifs : List Expr} {A B' C' : E} {As : Es} {t : T} {pos px : Pos} {x : Str} {k : Nat} {st : Stmt} {sts body : List Stmt} {SA : S} {BA BB : B}
/-- x = [e for ..] -/
theorem sndS_setC {tt : Tg} {it : IT} {c : T} (F : FrS X ct tb Γ N sc loc) (hx : x ∈ loc) (hi : N[k]? = some x) (ok : BlkOk N sc scope (ownOf N scope)) (hset : isSet iter = false) (ht : resTg N ((ownOf N scope).map Prod.fst) tg = some tt) (hsl : ∀ i ∈ slotsOf tt, i ∈ (ownOf N scope).map Prod.snd)
    (hI : SndI X ct Γ tg iter it) (hc : SndTB X ct Γ scope ifs c) (he : SndB X ct Γ scope elt A) : SndS τ X ct Γ (.Assign [.Name x px] (.ListComp elt [⟨tg, iter, ifs, 0⟩] scope pos) pos') (.set (.nm k) (.comp ((ownOf N scope).map Prod.snd) tt it c A)) := by
  intro W ρ μ σ H M D tk E R h
  unfold runS at h
  have okX : BlkOk X.N X.env.scope scope (ownOf N scope) := by rw [F.f.hN, F.f.hsc]; exact ok
  have core : tLc (wI X tg iter) (gOf X.K tt) (wTB X scope ifs) (wEB X scope elt) ((ownOf N scope).map (·.2)) σ H (fun x H1 => D.nx (σ.set k (some x)) H1) := by
    refine comp_core F.f ok hset ht hsl hI hc he tk E R (Ok.toN R (fun d μ' q => comp_lst q) (h.step E fun d μ1 v H1 M1 e1 R1 r1 h1 => ?_))
    exact h1.nxt R1 ((E.evo e1).set r1 k)
  cases hsw : swB sc scope x px pos with
  | true =>
    have hl : sc.names.lookup x = some .local := by
      unfold swB at hsw
      simp only [Bool.and_eq_true, beq_iff_eq] at hsw
      exact hsw.1.1
    refine ws (ps_setLc (g := gOf X.K tt) (te := wEB X scope elt) (tt := wTB X scope ifs) (wi := wI X tg iter) F.f.calm (by rw [F.f.hN]; exact F.f.nd) (by rw [F.f.hN]; exact hi) (by rw [F.f.hsc]; exact hl) (by rw [sw_comp (by rw [F.f.hsc]; exact F.f.kindF) F.f.hsc, hsw]) pI okX (fun s H C cl fp => tg_ok (F.f.blk ok s H C cl fp) (own_loc ok s H C cl fp) ht) (comp_pts hc) (fun s H C cl fp => ⟨fun pins s' σ H' Q' I q => q s H C cl fp pins s' I⟩) (set_iter hset)) core
  | false =>
    refine ws (ps_set (by rw [F.f.hN]; exact F.f.nd) (by rw [F.f.hN]; exact hi) (by rw [F.f.hsc]; exact (F.l x hx).1)
      (pe_lc (te := wEB X scope elt) (tt := wTB X scope ifs) (g := gOf X.K tt) (wi := wI X tg iter) F.f.calm (by rw [F.f.hN]; exact F.f.nd) pI okX (fun s H C cl fp => tg_ok (F.f.blk ok s H C cl fp) (own_loc ok s H C cl fp) ht) (comp_pts hc) (fun s H C cl fp => ⟨fun pins s' σ H' Q' I q => q s H C cl fp pins s' I⟩) (set_iter hset))
      (by rw [sw_comp (by rw [F.f.hsc]; exact F.f.kindF) F.f.hsc, hsw]) (by rw [F.f.hsc]; exact (F.l x hx).2)) core
/-- what becomes ours -/
theorem takeNew {W : WX} {ρ : Rho} {μ : Mu} {σ : St} {H : Hp} {M : AM} {D : Ends} {r : Res PyI.D} (E : RelE X.K H M σ ρ) (R : RelH X.K ct H μ M)
    (h : OkS X.K ct M H (r.then ρ fun d μ => match d with
      | .lst l => .nx (ρ.set k (some (.ref μ.length))) (μ ++ [.lst l])
      | _ => .stuck) D W) : OkN X.K ct M H r (fun x H1 => D.nx (σ.set k (some x)) H1) (fun c d H' => W c d σ H') := by
  cases r with
  | stuck => exact h
  | err c fs μ' => exact fun cls d H' M' e R1 r1 => h cls d σ H' M' e R1 (E.evo e) r1
  | ok d μ2 =>
    cases d with
    | lst acc =>
      intro p H2 M2 accv hp e2 R2 hp2 ra
      have hpe : p ∉ M2.ex := by rw [e2.ex]; exact (R.fresh hp).2
      have rm : MRep X.K ct H2 (M2.add p) p (.lst acc) := ⟨accv, hp2, ra.stay Stay.take⟩
      have R3 := R2.takeIn hpe rm
      have ea : Evo M H (M2.add p) H2 := ⟨fun n a q => ix_add (e2.pre n a q), by show _ ≤ (M2.ix ++ [p]).length; rw [List.length_append]; exact Nat.le_add_right_of_le e2.len, e2.ex, fun a u hh n => ⟨(e2.keep a u hh n).1, by
        show a ∉ M2.ix ++ [p]
        rw [List.mem_append, List.mem_singleton]
        rintro (q | q)
        · exact (e2.keep a u hh n).2 q
        · exact ne_of_none hh hp q⟩⟩
      have hl : M2.ix.length = μ2.length := R2.len
      exact h _ H2 (M2.add p) ea R3 ((E.evo ea).set (.ref (by show (M2.ix ++ [p])[μ2.length]? = some p; rw [← hl, List.getElem?_append_right (Nat.le_refl _), Nat.sub_self]; rfl)) k)
    | _ => exact (h : False).elim
/-- x = [e, ..], to be ours -/
theorem sndS_newL (F : FrS X ct tb Γ N sc loc) (hx : x ∈ loc) (hi : N[k]? = some x) (ha : SndA X ct Γ es As) : SndS τ X ct Γ (.Assign [.Name x px] (.List es pos) pos') (.new k (.lst As)) := by
  intro W ρ μ σ H M D tk E R h
  unfold runS at h
  have hN := takeNew E R h
  refine ws (ps_set (by rw [F.f.hN]; exact F.f.nd) (by rw [F.f.hN]; exact hi) (by rw [F.f.hsc]; exact (F.l x hx).1) (pe_lst pA) (sw_plain rfl) (by rw [F.f.hsc]; exact (F.l x hx).2)) ?_
  unfold evalE at hN
  refine ha W ρ μ σ H M _ tk E R ?_
  cases hA : evalEs Γ As ρ μ with
  | stuck => rw [hA] at hN; exact hN.elim
  | err c fs μ' => rw [hA] at hN; exact hN
  | ok ds μ1 =>
    rw [hA] at hN
    intro vs H1 M1 e1 R1 r1
    have hn : OkN X.K ct M H (needs (ds.length ≤ 16777216) (.ok (.lst ds) μ1)) (fun x H1 => D.nx (σ.set k (some x)) H1) (fun c d H' => W c d σ H') := hN
    unfold needs at hn
    by_cases hz : ds.length ≤ 16777216
    · rw [if_pos hz] at hn
      refine ⟨sl16 (by rw [r1.length]; exact hz), fun p hp => ?_⟩
      exact hn p (upd H1 p (.lst vs)) M1 vs (e1.back R R1 hp) (e1.newEx (e1.back R R1 hp)) (R1.hide hp) upd_same (r1.stay ((Stay.hide hp).trans (Evo.new hp).stay))
    · rw [if_neg hz] at hn; exact (hn : False).elim
theorem sndS_newC {tt : Tg} {it : IT} {c : T} (F : FrS X ct tb Γ N sc loc) (hx : x ∈ loc) (hi : N[k]? = some x) (ok : BlkOk N sc scope (ownOf N scope)) (hset : isSet iter = false) (ht : resTg N ((ownOf N scope).map Prod.fst) tg = some tt) (hsl : ∀ i ∈ slotsOf tt, i ∈ (ownOf N scope).map Prod.snd)
    (hI : SndI X ct Γ tg iter it) (hc : SndTB X ct Γ scope ifs c) (he : SndB X ct Γ scope elt A) : SndS τ X ct Γ (.Assign [.Name x px] (.ListComp elt [⟨tg, iter, ifs, 0⟩] scope pos) pos') (.new k (.comp ((ownOf N scope).map Prod.snd) tt it c A)) := by
  intro W ρ μ σ H M D tk E R h
  unfold runS at h
  have okX : BlkOk X.N X.env.scope scope (ownOf N scope) := by rw [F.f.hN, F.f.hsc]; exact ok
  have core : tLc (wI X tg iter) (gOf X.K tt) (wTB X scope ifs) (wEB X scope elt) ((ownOf N scope).map (·.2)) σ H (fun x H1 => D.nx (σ.set k (some x)) H1) := comp_core F.f ok hset ht hsl hI hc he tk E R (takeNew E R h)
  cases hsw : swB sc scope x px pos with
  | true =>
    have hl : sc.names.lookup x = some .local := by
      unfold swB at hsw
      simp only [Bool.and_eq_true, beq_iff_eq] at hsw
      exact hsw.1.1
    refine ws (ps_setLc (g := gOf X.K tt) (te := wEB X scope elt) (tt := wTB X scope ifs) (wi := wI X tg iter) F.f.calm (by rw [F.f.hN]; exact F.f.nd) (by rw [F.f.hN]; exact hi) (by rw [F.f.hsc]; exact hl) (by rw [sw_comp (by rw [F.f.hsc]; exact F.f.kindF) F.f.hsc, hsw]) pI okX (fun s H C cl fp => tg_ok (F.f.blk ok s H C cl fp) (own_loc ok s H C cl fp) ht) (comp_pts hc) (fun s H C cl fp => ⟨fun pins s' σ H' Q' I q => q s H C cl fp pins s' I⟩) (set_iter hset)) core
  | false =>
    refine ws (ps_set (by rw [F.f.hN]; exact F.f.nd) (by rw [F.f.hN]; exact hi) (by rw [F.f.hsc]; exact (F.l x hx).1)
      (pe_lc (te := wEB X scope elt) (tt := wTB X scope ifs) (g := gOf X.K tt) (wi := wI X tg iter) F.f.calm (by rw [F.f.hN]; exact F.f.nd) pI okX (fun s H C cl fp => tg_ok (F.f.blk ok s H C cl fp) (own_loc ok s H C cl fp) ht) (comp_pts hc) (fun s H C cl fp => ⟨fun pins s' σ H' Q' I q => q s H C cl fp pins s' I⟩) (set_iter hset))
      (by rw [sw_comp (by rw [F.f.hsc]; exact F.f.kindF) F.f.hsc, hsw]) (by rw [F.f.hsc]; exact (F.l x hx).2)) core

/-! ### replace -/
def SndR (X : Cx) (ct : CTab) (Γ : G) (e : Expr) (A : R) : Prop := ∀ (W : WX) (ρ : Rho) (μ : Mu) (σ : St) (H : Hp) (M : AM) (Q : VK), Takes X W → RelE X.K H M σ ρ → RelH X.K ct H μ M →
  Ok X.K ct (RD X.K) M H (evalR Γ A ρ μ) Q (fun c d H' => W c d σ H') → ∀ pins s, 1 ≤ s.toks → Inv X pins σ H s → wpAny (model X.prog X.w) X.A (eval e X.env) (EP X pins σ Q) X.xe s
theorem sndR_base (h : Snd X ct Γ e A) : SndR X ct Γ e (.base A) := fun W ρ μ σ H M Q tk E R k pins s _ I => h W ρ μ σ H M Q tk E R k pins s I
theorem sndR_repl {RA : PyI.R} {y z : Str} {j1 j2 : Nat} {c0 c1 apos : Pos} (h : SndR X ct Γ o RA) (hyz : (y == z) = false) (hp : plainO o = true) (hl : (apos.endLine == pos.line) = true) : SndR X ct Γ (.Call (.Attribute o "replace" apos) [.Constant (.str y) j1 c0, .Constant (.str z) j2 c1] [] pos) (.repl RA y z) := by
  intro W ρ μ σ H M Q tk E R k pins s h0 I
  let to : TE := fun σ H Q => ∀ pins s, 1 ≤ s.toks → Inv X pins σ H s → wpAny (model X.prog X.w) X.A (eval o X.env) (EP X pins σ Q) X.xe s
  have hto : PET X o to := fun pins s σ H Q h0 I q => q pins s h0 I
  refine CwR.pet_replT (to := to) hto hyz rfl (base_plain hp) hl pins s σ H Q h0 I ?_
  unfold evalR at k
  refine h W ρ μ σ H M _ tk E R (k.step fun d μ1 v H1 M1 e1 R1 r1 h1 => ?_)
  unfold replD at h1
  split at h1
  · cases r1
    obtain ⟨hz, h1⟩ := h1.needs
    exact ⟨_, rfl, hz, h1.ret R1 (.str _)⟩
  · exact h1.elim
theorem sndS_setR {RA : PyI.R} (F : FrS X ct tb Γ N sc loc) (hx : x ∈ loc) (hi : N[k]? = some x) (hc : isComp e = false) (he : SndR X ct Γ e RA) : SndS true X ct Γ (.Assign [.Name x px] e pos) (.setR k RA) := by
  intro W ρ μ σ H M D tk E R h
  unfold runS at h
  intro pins s h0 I
  refine wpAny_Assign_Name (thn (he W ρ μ σ H M (fun v H1 => D.nx (σ.set k (some v)) H1) tk E R (h.step E fun d μ1 v H1 M1 e1 R1 r1 h1 => h1.nxt R1 ((E.evo e1).set r1 k)) pins s (h0 rfl) I) fun v s1 ⟨y, H1, I1, r1, q1⟩ => ?_) (sw_plain hc)
  exact store_ok I1 (by rw [F.f.hN]; exact F.f.nd) (by rw [F.f.hN]; exact hi) (by rw [F.f.hsc]; exact (F.l x hx).1) r1 (fun s2 I2 => ⟨_, H1, I2, q1⟩) (by rw [F.f.hsc]; exact (F.l x hx).2)
/-- return 'pre' + e.replace(..).. + 'post' -/
theorem sndS_retR {RA : PyI.R} {pre post : Str} {j1 j2 : Nat} {p1 p2 p3 p4 : Pos} (he : SndR X ct Γ e RA) : SndS true X ct Γ (.Return (some (.BinOp (.BinOp (.Constant (.str pre) j1 p1) .Add e p2) .Add (.Constant (.str post) j2 p3) p4)) pos) (.retR pre RA post) := by
  intro W ρ μ σ H M D tk E R h
  unfold runS at h
  let to : TE := fun σ H Q => ∀ pins s, 1 ≤ s.toks → Inv X pins σ H s → wpAny (model X.prog X.w) X.A (eval e X.env) (EP X pins σ Q) X.xe s
  have hto : PET X e to := fun pins s σ H Q h0 I q => q pins s h0 I
  intro pins s h0 I
  refine CwR.pst_ret (CwR.pet_op op_add_str (CwR.pet_op op_add_str (CwR.PET.of pe_str) hto) (CwR.PET.of pe_str)) pins s σ H D (h0 rfl) I ?_
  show to σ H _
  refine he W ρ μ σ H M _ tk E R (h.step E fun d μ1 v H1 M1 e1 R1 r1 h1 => ?_)
  cases r1 with
  | str z =>
    unfold binD at h1
    simp only at h1
    have h2 : OkS X.K ct M1 H1 ((needs (pre.length + z.length ≤ 16777216) (Res.ok (PyI.D.str (pre ++ z)) μ1) |>.bind fun y μ => binD .add y (.str post) μ).then ρ fun d μ => .rt d μ) D W := h1
    unfold needs at h2
    by_cases hz : pre.length + z.length ≤ 16777216
    · rw [if_pos hz] at h2
      have h3 : OkS X.K ct M1 H1 ((needs ((pre ++ z).length + post.length ≤ 16777216) (Res.ok (PyI.D.str ((pre ++ z) ++ post)) μ1)).then ρ fun d μ => .rt d μ) D W := h2
      unfold needs at h3
      by_cases hz2 : (pre ++ z).length + post.length ≤ 16777216
      · rw [if_pos hz2] at h3
        refine ⟨pre, z, rfl, rfl, sl16 hz, pre ++ z, post, rfl, rfl, sl16 hz2, ?_⟩
        exact (h3 : OkS X.K ct M1 H1 (.rt _ μ1) D W) _ H1 M1 (Evo.refl _ _) R1 (.str _)
      · rw [if_neg hz2] at h3; exact (h3 : False).elim
    · rw [if_neg hz] at h2; exact (h2 : False).elim
  | _ => exact (h1 : False).elim
/-! ### blocks, loops -/
theorem sndB_nil : SndBk τ X ct Γ [] .nil := by
  intro W ρ μ σ H M D tk E R h
  unfold runB at h
  exact fun pins s _ I => pss_nil.run pins s σ H D I (h.nxt R E)
theorem sndB_cons (h1 : SndS τ X ct Γ st SA) (h2 : SndBk τ X ct Γ sts BA) : SndBk τ X ct Γ (st :: sts) (.cons SA BA) := by
  intro W ρ μ σ H M D tk E R h
  unfold runB at h
  intro pins s h0 I
  have key := h1 W ρ μ σ H M { D with nx := wB τ X sts D } tk E R (h.seq rfl rfl rfl fun ρ' μ' σ' H' M' e' R' E' k => h2 W ρ' μ' σ' H' M' D tk E' R' k) pins s h0 I
  refine wpAny_execs_cons (wpAny_mono (PySem.wpAny_toks key) (fun f s1 q => ?_) fun _ _ x => x.2)
  obtain ⟨hk, q⟩ := q
  cases f with
  | next =>
    obtain ⟨σ', H', I', q⟩ := q
    exact q pins s1 (fun t => Nat.le_trans (h0 t) hk) I'
  | ret v => exact q
  | brk => exact q
  | cont => exact q
theorem sndS_if (hc : SndT X ct Γ c t) (ha : SndBk τ X ct Γ sts BA) (hb : SndBk τ X ct Γ body BB) : SndS τ X ct Γ (.If c sts body pos) (.ifs t BA BB) := by
  intro W ρ μ σ H M D tk E R h
  unfold runS at h
  intro pins s h0 I
  have key := hc W ρ μ σ H M (fun k H1 => if k = true then wB τ X sts D σ H1 else wB τ X body D σ H1) tk E R (h.step E fun k μ1 v H1 M1 e1 R1 r1 h1 => by
    cases r1
    cases k with
    | true => exact ha W ρ μ1 σ H1 M1 D tk (E.evo e1) R1 h1
    | false => exact hb W ρ μ1 σ H1 M1 D tk (E.evo e1) R1 h1) pins s I
  refine wpAny_If (wpAny_mono (PySem.wpAny_toks key) (fun d s1 q => ?_) fun _ _ x => x.2)
  obtain ⟨hk, H1, I1, q⟩ := q
  cases d with
  | true => exact q pins s1 (fun t => Nat.le_trans (h0 t) hk) I1
  | false => exact q pins s1 (fun t => Nat.le_trans (h0 t) hk) I1
theorem sndS_while (F : FrS X ct tb Γ N sc loc) (hc : SndT X ct Γ c t) (hb : SndBk τ X ct Γ body BA) : SndS τ X ct Γ (.While c body [] pos) (.whl t BA) := by
  intro W ρ μ σ H M D tk E R h
  unfold runS at h
  intro pins s h0 I
  refine wpAny_While (codeAny_whileLoop (fun n s' => (τ = true → 1 ≤ s'.toks) ∧ ∃ (ρ' : Rho) (μ' : Mu) (σ' : St) (H' : Hp) (M' : AM), Inv X pins σ' H' s' ∧ RelE X.K H' M' σ' ρ' ∧ RelH X.K ct H' μ' M' ∧ OkS X.K ct M' H' (whileLoop (fun ρ μ => evalT Γ t ρ μ) (fun ρ μ => runB Γ BA ρ μ) n ρ' μ') D W) ?_ Γ.wf ⟨h0, ρ, μ, σ, H, M, I, E, R, h⟩)
  rintro n s1 ⟨h01, ρ1, μ1, σ1, H1, M1, I1, E1, R1, k1⟩
  cases n with
  | zero => exact (k1 : False).elim
  | succ n =>
    unfold whileLoop at k1
    have key := hc W ρ1 μ1 σ1 H1 M1 (fun k H2 => if k = true then wB τ X body { D with nx := fun σ' H' => ∃ ρ' μ' M', RelE X.K H' M' σ' ρ' ∧ RelH X.K ct H' μ' M' ∧ OkS X.K ct M' H' (whileLoop (fun ρ μ => evalT Γ t ρ μ) (fun ρ μ => runB Γ BA ρ μ) n ρ' μ') D W, ct := fun σ' H' => ∃ ρ' μ' M', RelE X.K H' M' σ' ρ' ∧ RelH X.K ct H' μ' M' ∧ OkS X.K ct M' H' (whileLoop (fun ρ μ => evalT Γ t ρ μ) (fun ρ μ => runB Γ BA ρ μ) n ρ' μ') D W, bk := D.nx } σ1 H2 else D.nx σ1 H2) tk E1 R1 (k1.step E1 fun k μ2 v H2 M2 e2 R2 r2 k2 => by
      cases r2
      cases k with
      | false => exact k2.nxt R2 (E1.evo e2)
      | true =>
        simp only [if_true] at k2 ⊢
        refine hb W ρ1 μ2 σ1 H2 M2 _ tk (E1.evo e2) R2 ?_
        cases hr : runB Γ BA ρ1 μ2 with
        | nx ρ' μ' => rw [hr] at k2; exact fun σ' H' M' e' R' E' => ⟨ρ', μ', M', E', R', OkS.evo e' k2⟩
        | ct ρ' μ' => rw [hr] at k2; exact fun σ' H' M' e' R' E' => ⟨ρ', μ', M', E', R', OkS.evo e' k2⟩
        | br ρ' μ' => rw [hr] at k2; exact k2
        | rt d μ' => rw [hr] at k2; exact k2
        | er c fs ρ' μ' => rw [hr] at k2; exact k2
        | stuck => rw [hr] at k2; exact k2) pins s1 I1
    refine wpAny_passesOwn F.po (wpAny_mono (PySem.wpAny_toks key) (fun b s2 q => ?_) fun _ _ x => x.2)
    obtain ⟨hk2, H2, I2, q2⟩ := q
    have h02 : τ = true → 1 ≤ s2.toks := fun t => Nat.le_trans (h01 t) hk2
    cases b with
    | true =>
      rw [if_pos rfl]
      simp only [if_true] at q2
      refine wpAny_passesOwn F.po (wpAny_mono (PySem.wpAny_toks (q2 pins s2 h02 I2)) (fun f s3 q3 => ?_) fun _ _ x => x.2)
      obtain ⟨hk3, q3⟩ := q3
      have h03 : τ = true → 1 ≤ s3.toks := fun t => Nat.le_trans (h02 t) hk3
      cases f with
      | next =>
        obtain ⟨σ3, H3, I3, ρ', μ', M', E', R', k'⟩ := q3
        exact ⟨n, Nat.lt_succ_self n, h03, ρ', μ', σ3, H3, M', I3, E', R', k'⟩
      | cont =>
        obtain ⟨σ3, H3, I3, ρ', μ', M', E', R', k'⟩ := q3
        exact ⟨n, Nat.lt_succ_self n, h03, ρ', μ', σ3, H3, M', I3, E', R', k'⟩
      | brk => exact q3
      | ret v => exact q3
    | false =>
      rw [if_neg Bool.false_ne_true]
      exact wpAny_execs_nil ⟨σ1, H2, I2, q2⟩
end
end PyI
/-! A14: for; the resolver of statements; defs. -/
namespace PyI
open PySem L2
section
variable {τ : Bool} {X : Cx} {ct : CTab} {Γ : G} {N loc : List Str} {sc : Scope} {tb : Tb} {iter tg : Expr} {it : IT} {tt : Tg} {pos : Pos} {body : List Stmt} {BA : B}
theorem sndS_for (F : FrS X ct tb Γ N sc loc) (hset : isSet iter = false) (ht : resTg N loc tg = some tt) (hI : SndI X ct Γ tg iter it) (hb : SndBk τ X ct Γ body BA) : SndS τ X ct Γ (.For tg iter body [] pos) (.for_ tt it BA) := by
  intro W ρ μ σ H M D tk E R h
  unfold runS at h
  intro pins s h0 I
  have hg : PG X tg (gOf X.K tt) := tg_ok F.f F.l ht
  have hc := F.f.calm
  have hp := F.po
  generalize hf : (fun (d : PyI.D) (ρ : Rho) (μ : Mu) => match assignT tt d ρ with
      | some ρ' => runB Γ BA ρ' μ
      | none => Out.stuck) = f at h
  have key := hI W ρ μ σ H M (fun J H1 => ∃ (ds : List PyI.D) (src : Option (Nat × List PyI.D)) (μ1 : Mu) (M1 : AM), ItOk X.K ct M1 H1 J (ds, src) ∧ RelE X.K H1 M1 σ ρ ∧ RelH X.K ct H1 μ1 M1 ∧ OkS X.K ct M1 H1 (forLoop f (chkOf src) ds ρ μ1) D W) tk E R (h.step E fun its μ1 J H1 M1 e1 R1 J1 h1 => ⟨its.1, its.2, μ1, M1, J1, E.evo e1, R1, h1⟩) pins s I
  refine wpAny_For (wpAny_mono (PySem.wpAny_toks key) (fun v s1 h1 => wpAny_mono (PySem.wpAny_toks h1.2) (fun itv s2 h2 => ?_) fun _ _ x => x.2) fun _ _ x => x.2) (set_iter hset)
  obtain ⟨hk2, it, fp, tn, J, H2, e, I2, T, st2, f2, ds, src, μ2, M2, J2, E2, R2, k2⟩ := h2
  subst e
  have h02 : τ = true → 1 ≤ s2.toks := fun t => Nat.le_trans (Nat.le_trans (h0 t) h1.1) hk2
  have stat : ∀ {H' : Hp}, (∀ b ∈ fp, H' b = none) → ∀ b ∈ fp, FpOk X pins H' b := fun hn b hb => ⟨hn b hb, (f2 b hb).2⟩
  refine codeAny_forLoop_any (fun n s' => (τ = true → 1 ≤ s'.toks) ∧ ∃ (i : Nat) (ρ' : Rho) (μ' : Mu) (σ' : St) (H' : Hp) (M' : AM), Inv X pins σ' H' s' ∧ tn i s'.heap ∧ (∀ b ∈ fp, H' b = none) ∧ n = ds.length - i ∧ i ≤ ds.length ∧ RelE X.K H' M' σ' ρ' ∧ RelH X.K ct H' μ' M' ∧ Stay M2 H2 M' H' ∧ OkS X.K ct M' H' (forLoop f (chkOf src) (ds.drop i) ρ' μ') D W) ?_ ds.length ⟨h02, 0, ρ, μ2, σ, H2, M2, I2, st2, fun b hb => (f2 b hb).1, rfl, Nat.zero_le _, E2, R2, (Evo.refl _ _).stay, k2⟩
  rintro n s3 ⟨h03, i, ρ3, μ3, σ3, H3, M3, I3, st3, fr3, hn, hi, E3, R3, sty3, k3⟩
  rcases Nat.lt_or_ge i ds.length with hlt | hge
  · -- one more turn
    have hdi : ds[i]? = some ds[i] := List.getElem?_eq_getElem hlt
    rw [List.drop_eq_getElem_cons hlt] at k3
    unfold forLoop at k3
    by_cases hck : chkOf src μ3 = true
    · rw [if_pos hck] at k3
      obtain ⟨go, hy⟩ := J2.go M3 H3 μ3 i ds[i] sty3 R3 hck hdi
      refine wpAny_passesOwn hp (wpAny_mono (PySem.wpAny_toks (T.item X rfl rfl rfl hc i pins s3 σ3 H3 X.xe I3 (stat fr3) st3 go)) (fun r s4 z4 => ?_) fun _ _ x => x.2)
      obtain ⟨hk4, u, hr, h4⟩ := z4
      subst hr
      refine wpAny_passesOwn hp (wpAny_mono (PySem.wpAny_toks h4) (fun _ s5 z5 => ?_) fun _ _ x => x.2)
      obtain ⟨hk5, x, H5, I5, r5, y5, st5, fr5⟩ := z5
      obtain ⟨hH5, rx⟩ := hy x H5 y5
      subst hH5
      have I5' := I5.pinned (stat fr5) (T.obj _ _ st5)
      have hfd : f ds[i] ρ3 μ3 = (match assignT tt ds[i] ρ3 with
        | some ρ' => runB Γ BA ρ' μ3
        | none => Out.stuck) := by rw [← hf]
      rw [hfd] at k3
      cases has : assignT tt ds[i] ρ3 with
      | none => simp only [has] at k3; exact (k3 : False).elim
      | some ρ5 =>
        simp only [has] at k3
        have gq : gOf X.K tt x σ3 H5 (fun σ6 H6 => H6 = H5 ∧ RelE X.K H5 M3 σ6 ρ5) := assign_ok rx E3 has fun σ' E' _ => ⟨rfl, E'⟩
        refine wpAny_passesOwn hp (wpAny_mono (PySem.wpAny_toks (hg.run _ s5 σ3 H5 x u _ I5' r5 gq)) (fun _ s6 z6 => ?_) fun _ _ x => x.2)
        obtain ⟨hk6, σ6, H6, I6, rfl, E6⟩ := z6
        have h06 : τ = true → 1 ≤ s6.toks := fun t => Nat.le_trans (Nat.le_trans (Nat.le_trans (h03 t) hk4) hk5) hk6
        let Nx : St → Hp → Prop := fun σ' H' => ∃ (ρ' : Rho) (μ' : Mu) (M' : AM), RelE X.K H' M' σ' ρ' ∧ RelH X.K ct H' μ' M' ∧ Stay M2 H2 M' H' ∧ OkS X.K ct M' H' (forLoop f (chkOf src) (ds.drop (i + 1)) ρ' μ') D W
        have bodyOk : OkS X.K ct M3 H6 (runB Γ BA ρ5 μ3) { D with nx := Nx, ct := Nx, bk := D.nx } W := by
          cases hr : runB Γ BA ρ5 μ3 with
          | nx ρ' μ' => rw [hr] at k3; exact fun σ' H' M' e' R' E' => ⟨ρ', μ', M', E', R', sty3.trans e'.stay, OkS.evo e' k3⟩
          | ct ρ' μ' => rw [hr] at k3; exact fun σ' H' M' e' R' E' => ⟨ρ', μ', M', E', R', sty3.trans e'.stay, OkS.evo e' k3⟩
          | br ρ' μ' => rw [hr] at k3; exact k3
          | rt d μ' => rw [hr] at k3; exact k3
          | er c fs ρ' μ' => rw [hr] at k3; exact k3
          | stuck => rw [hr] at k3; exact k3
        refine wpAny_passesOwn hp (wpAny_mono (PySem.wpAny_toks (hb W ρ5 μ3 σ6 H6 M3 _ tk E6 R3 bodyOk _ s6 h06 I6)) (fun f' s7 z7 => ?_) fun _ _ x => x.2)
        obtain ⟨hk7, q7⟩ := z7
        have h07 : τ = true → 1 ≤ s7.toks := fun t => Nat.le_trans (h06 t) hk7
        have again : ∀ {σ7 : St} {H7 : Hp}, Inv X (pins ++ pinsAt fp s5.heap) σ7 H7 s7 → Nx σ7 H7 → ∃ m, m < n ∧ (τ = true → 1 ≤ s7.toks) ∧ ∃ (i : Nat) (ρ' : Rho) (μ' : Mu) (σ' : St) (H' : Hp) (M' : AM), Inv X pins σ' H' s7 ∧ tn i s7.heap ∧ (∀ b ∈ fp, H' b = none) ∧ m = ds.length - i ∧ i ≤ ds.length ∧ RelE X.K H' M' σ' ρ' ∧ RelH X.K ct H' μ' M' ∧ Stay M2 H2 M' H' ∧ OkS X.K ct M' H' (forLoop f (chkOf src) (ds.drop i) ρ' μ') D W := fun {σ7 H7} I7 ⟨ρ', μ', M', E', R', sty', k'⟩ => by
          refine ⟨ds.length - (i + 1), by omega, h07, i + 1, ρ', μ', σ7, H7, M', I7.unpinned, T.keep _ _ _ st5 fun b hb o e => (I7.pin (b, o) (List.mem_append_right _ (List.mem_append_right _ (mem_pinsAt hb e)))).1, fun b hb => ?_, rfl, hlt, E', R', sty', k'⟩
          obtain ⟨o, e, d⟩ := T.obj _ _ st5 b hb
          exact (I7.pin (b, o) (List.mem_append_right _ (List.mem_append_right _ (mem_pinsAt hb e)))).2.1
        cases f' with
        | next => obtain ⟨σ7, H7, I7, n7⟩ := q7; exact again I7 n7
        | cont => obtain ⟨σ7, H7, I7, n7⟩ := q7; exact again I7 n7
        | brk => obtain ⟨σ7, H7, I7, q7⟩ := q7; exact ⟨σ7, H7, I7.unpinned, q7⟩
        | ret v => obtain ⟨x7, σ7, H7, I7, r7, q7⟩ := q7; exact ⟨x7, σ7, H7, I7.unpinned, r7, q7⟩
    · rw [if_neg hck] at k3; exact (k3 : False).elim
  · have hie : i = ds.length := Nat.le_antisymm hi hge
    subst hie
    rw [List.drop_length] at k3
    unfold forLoop at k3
    by_cases hck : chkOf src μ3 = true
    · rw [if_pos hck] at k3
      refine wpAny_passesOwn hp (thn (T.done X rfl rfl rfl hc _ pins s3 σ3 H3 X.xe I3 (stat fr3) st3 (J2.stop M3 H3 μ3 sty3 R3 hck)) fun r s4 ⟨hr, I4⟩ => ?_)
      subst hr
      exact wpAny_execs_nil ⟨σ3, H3, I4, k3.nxt R3 E3⟩
    · rw [if_neg hck] at k3; exact (k3 : False).elim
end


/-! ### the resolver of statements -/
structure RS where
  C : RC
  sc : Scope
  loc : List Str
  muts : List Str
  τ : Bool
structure ReplOf where
  o : Expr
  y : Str
  z : Str
  apos : Pos
  pos : Pos
def replOf : Expr → Option ReplOf
  | .Call (.Attribute o m apos) [.Constant (.str y) _ _, .Constant (.str z) _ _] [] pos => if m = "replace" then some ⟨o, y, z, apos, pos⟩ else none
  | _ => none
theorem replOf_eq {e : Expr} {r : ReplOf} (h : replOf e = some r) : ∃ j1 c0 j2 c1, e = .Call (.Attribute r.o "replace" r.apos) [.Constant (.str r.y) j1 c0, .Constant (.str r.z) j2 c1] [] r.pos := by
  unfold replOf at h
  split at h
  · split at h
    · next hm => cases h; rw [hm]; exact ⟨_, _, _, _, rfl⟩
    · cases h
  · cases h
def resR : Nat → RC → Scope → Expr → Option R
  | 0, _, _, _ => none
  | n + 1, C, sc, e => match replOf e with
    | some r => guardO (!(r.y == r.z) && plainO r.o && r.apos.endLine == r.pos.line) ((resR n C sc r.o).map fun q => .repl q r.y r.z)
    | none => (resE n C sc e).map .base
/-- return 'a' + e.replace(..) + 'b' -/
structure RetOf where
  pre : Str
  e : Expr
  post : Str
def retOf : Expr → Option RetOf
  | .BinOp (.BinOp (.Constant (.str a) _ _) .Add e _) .Add (.Constant (.str b) _ _) _ => (replOf e).map fun _ => ⟨a, e, b⟩
  | _ => none
theorem retOf_eq {e : Expr} {r : RetOf} (h : retOf e = some r) : ∃ j1 p1 p2 j2 p3 p4, e = .BinOp (.BinOp (.Constant (.str r.pre) j1 p1) .Add r.e p2) .Add (.Constant (.str r.post) j2 p3) p4 := by
  unfold retOf at h
  split at h
  · obtain ⟨_, _, rfl⟩ := Option.map_eq_some_iff.mp h; exact ⟨_, _, _, _, _, _, rfl⟩
  · cases h
structure CompOf where
  elt : Expr
  tg : Expr
  iter : Expr
  ifs : List Expr
  scope : Scope
  pos : Pos
def compOf : Expr → Option CompOf
  | .ListComp elt [⟨tg, iter, ifs, 0⟩] scope pos => some ⟨elt, tg, iter, ifs, scope, pos⟩
  | _ => none
theorem compOf_eq {e : Expr} {r : CompOf} (h : compOf e = some r) : e = .ListComp r.elt [⟨r.tg, r.iter, r.ifs, 0⟩] r.scope r.pos := by
  unfold compOf at h
  split at h
  · cases h; rfl
  · cases h
def resComp (n : Nat) (C : RC) (sc : Scope) (r : CompOf) : Option (Tg × IT × T × E) :=
  guardO (blkC C.N sc r.scope (ownOf C.N r.scope) && !isSet r.iter) ((resTg C.N ((ownOf C.N r.scope).map Prod.fst) r.tg).bind fun t => guardO ((slotsOf t).all fun i => decide (i ∈ (ownOf C.N r.scope).map Prod.snd)) ((resI n C sc r.iter).bind fun it =>
    (match r.ifs with
      | [] => some T.yes
      | [c] => resT n C (relS r.scope sc) c
      | _ => none).bind fun c => (resE n C (relS r.scope sc) r.elt).map fun e => (t, it, c, e)))
def isLst : Expr → Option (List Expr)
  | .List es _ => some es
  | _ => none
theorem isLst_eq {e : Expr} {es : List Expr} (h : isLst e = some es) : ∃ p, e = .List es p := by
  unfold isLst at h
  split at h
  · cases h; exact ⟨_, rfl⟩
  · cases h
def resAug : Operator → Option Bop
  | .Add => some .add
  | .Sub => some .sub
  | _ => none
mutual
def resS : Nat → RS → Stmt → Option S
  | 0, _, _ => none
  | n + 1, c, st => match st with
    | .Assign [.Name x _] e _ => guardO (decide (x ∈ c.loc)) ((ixOf x c.C.N).bind fun k =>
        match replOf e with
        | some _ => guardO c.τ ((resR n c.C c.sc e).map (.setR k))
        | none => match compOf e with
          | some r => (resComp n c.C c.sc r).map fun q => if decide (x ∈ c.muts) then .new k (.comp ((ownOf c.C.N r.scope).map Prod.snd) q.1 q.2.1 q.2.2.1 q.2.2.2) else .set (.nm k) (.comp ((ownOf c.C.N r.scope).map Prod.snd) q.1 q.2.1 q.2.2.1 q.2.2.2)
          | none => if decide (x ∈ c.muts) then (match isLst e with
              | some es => (resEs n c.C c.sc es).map fun As => .new k (.lst As)
              | none => guardO (!isComp e) ((resE n c.C c.sc e).map (.set (.nm k)))) else guardO (!isComp e) ((resE n c.C c.sc e).map (.set (.nm k))))
    | .Assign [.Tuple es _ _] e _ => guardO (!isComp e && !isTup e) ((resNames c.C.N c.loc es).bind fun l => (resE n c.C c.sc e).map (.set (.tp l)))
    | .Assign [.Subscript o i _] v _ => guardO (!isSlc i && !isComp v) ((resE n c.C c.sc o).bind fun A => (resE n c.C c.sc i).bind fun B => (resE n c.C c.sc v).map fun C => .setIx A B C)
    | .AugAssign (.Name x _) op e _ => guardO (decide (x ∈ c.loc)) ((ixOf x c.C.N).bind fun k => (resAug op).bind fun b => (resE n c.C c.sc e).map (.aug k b))
    | .Expr e _ => guardO (!isComp e) ((resE n c.C c.sc e).map .expr)
    | .If t a b _ => (resT n c.C c.sc t).bind fun T => (resB n c a).bind fun A => (resB n c b).map fun B => .ifs T A B
    | .For tg iter body [] _ => guardO (!isSet iter) ((resTg c.C.N c.loc tg).bind fun t => (resI n c.C c.sc iter).bind fun it => (resB n c body).map fun b => .for_ t it b)
    | .While t body [] _ => (resT n c.C c.sc t).bind fun T => (resB n c body).map fun b => .whl T b
    | .Return (some e) _ => (match retOf e with
        | some r => guardO c.τ ((resR n c.C c.sc r.e).map fun q => .retR r.pre q r.post)
        | none => (resE n c.C c.sc e).map .ret)
    | .Return none _ => some .retN
    | .Pass _ => some .pass
    | .Break _ => some .brk
    | .Continue _ => some .cnt
    | .Raise _ _ _ => some .bad
    | _ => none
def resB : Nat → RS → List Stmt → Option B
  | 0, _, _ => none
  | n + 1, c, sts => match sts with
    | [] => some .nil
    | st :: r => (resS n c st).bind fun A => (resB n c r).map fun B => .cons A B
end
section
variable {ct : CTab} {Γ : G} {X : Cx} {c : RS}
theorem resR_ok : ∀ (n : Nat) {X : Cx} {C : RC} {sc : Scope} {e : Expr} {A : R}, Fr X ct C.tb Γ C.N sc → resR n C sc e = some A → SndR X ct Γ e A
  | 0, _, _, _, _, _, _, h => by unfold resR at h; cases h
  | n + 1, X, C, sc, e, A, F, h => by
    unfold resR at h
    split at h
    · next r hr =>
      obtain ⟨j1, c0, j2, c1, rfl⟩ := replOf_eq hr
      obtain ⟨hg, h⟩ := guardO_some h
      simp only [Bool.and_eq_true, Bool.not_eq_true'] at hg
      obtain ⟨q, hq, rfl⟩ := Option.map_eq_some_iff.mp h
      exact sndR_repl (resR_ok n F hq) hg.1.1 hg.1.2 hg.2
    · obtain ⟨q, hq, rfl⟩ := Option.map_eq_some_iff.mp h
      exact sndR_base ((sndAt ct Γ C n).e X sc e q F hq)
theorem comp_parts {n : Nat} {C : RC} {sc : Scope} {r : CompOf} {q : Tg × IT × T × E} (F : Fr X ct C.tb Γ C.N sc) (h : resComp n C sc r = some q) :
    BlkOk C.N sc r.scope (ownOf C.N r.scope) ∧ isSet r.iter = false ∧ resTg C.N ((ownOf C.N r.scope).map Prod.fst) r.tg = some q.1 ∧ (∀ i ∈ slotsOf q.1, i ∈ (ownOf C.N r.scope).map Prod.snd) ∧
      SndI X ct Γ r.tg r.iter q.2.1 ∧ SndTB X ct Γ r.scope r.ifs q.2.2.1 ∧ SndB X ct Γ r.scope r.elt q.2.2.2 := by
  unfold resComp at h
  obtain ⟨hb, h⟩ := guardO_some h
  simp only [Bool.and_eq_true, Bool.not_eq_true'] at hb
  obtain ⟨t, ht, h⟩ := Option.bind_eq_some_iff.mp h
  obtain ⟨hsl, h⟩ := guardO_some h
  obtain ⟨it, hit, h⟩ := Option.bind_eq_some_iff.mp h
  obtain ⟨c, hc, h⟩ := Option.bind_eq_some_iff.mp h
  obtain ⟨A1, hA, rfl⟩ := Option.map_eq_some_iff.mp h
  have ok := blkOk_by hb.1
  have ih := sndAt ct Γ C n
  refine ⟨ok, hb.2, ht, fun i hi => of_decide_eq_true (List.all_eq_true.mp hsl i hi), ih.i X sc _ _ _ F hit, ?_, fun s H C' cl fp => ih.e _ _ _ _ (F.blk ok s H C' cl fp) hA⟩
  split at hc
  · next hq => cases hc; exact .inl ⟨hq, rfl⟩
  · next e hq => exact .inr ⟨_, hq, fun s H C' cl fp => ih.t _ _ _ _ (F.blk ok s H C' cl fp) hc⟩
  · cases hc
theorem resS_ok : ∀ (n : Nat), (∀ {X : Cx} {st : Stmt} {A : S}, FrS X ct c.C.tb Γ c.C.N c.sc c.loc → resS n c st = some A → SndS c.τ X ct Γ st A) ∧ (∀ {X : Cx} {sts : List Stmt} {A : B}, FrS X ct c.C.tb Γ c.C.N c.sc c.loc → resB n c sts = some A → SndBk c.τ X ct Γ sts A)
  | 0 => ⟨fun _ h => by (unfold resS at h; cases h), fun _ h => by (unfold resB at h; cases h)⟩
  | n + 1 => by
    have ih := resS_ok n
    have ie := sndAt ct Γ c.C n
    refine ⟨fun {X st A} F h => ?_, fun {X sts A} F h => ?_⟩
    · unfold resS at h
      split at h
      · -- x = e
        next x px e pos =>
        obtain ⟨hx, h⟩ := guardO_some h
        have hx := of_decide_eq_true hx
        obtain ⟨k, hk, h⟩ := Option.bind_eq_some_iff.mp h
        have hk := ixOf_get hk
        split at h
        · next r hr =>
          obtain ⟨ht, h⟩ := guardO_some h
          obtain ⟨q, hq, rfl⟩ := Option.map_eq_some_iff.mp h
          obtain ⟨j1, c0, j2, c1, he⟩ := replOf_eq hr
          rw [ht]
          exact sndS_setR F hx hk (by rw [he]; rfl) (resR_ok n F.f hq)
        · split at h
          · next r hr =>
            obtain ⟨q, hq, rfl⟩ := Option.map_eq_some_iff.mp h
            obtain ⟨p1, p2, p3, p4, p5, p6, p7⟩ := comp_parts F.f hq
            rw [compOf_eq hr]
            split
            · exact sndS_newC F hx hk p1 p2 p3 p4 p5 p6 p7
            · exact sndS_setC F hx hk p1 p2 p3 p4 p5 p6 p7
          · have plain : ∀ {A : S}, guardO (!isComp e) ((resE n c.C c.sc e).map (S.set (.nm k))) = some A → SndS c.τ X ct Γ (.Assign [.Name x px] e pos) A := fun h => by
              obtain ⟨hc, h⟩ := guardO_some h
              obtain ⟨q, hq, rfl⟩ := Option.map_eq_some_iff.mp h
              exact sndS_set F hx hk (by simpa using hc) (ie.e X c.sc _ _ F.f hq)
            split at h
            · split at h
              · next es hes =>
                obtain ⟨q, hq, rfl⟩ := Option.map_eq_some_iff.mp h
                obtain ⟨p, he⟩ := isLst_eq hes
                rw [he]
                exact sndS_newL F hx hk (ie.es X c.sc _ _ F.f hq).1
              · exact plain h
            · exact plain h
      · obtain ⟨hc, h⟩ := guardO_some h
        simp only [Bool.and_eq_true, Bool.not_eq_true'] at hc
        obtain ⟨l, hl, h⟩ := Option.bind_eq_some_iff.mp h
        obtain ⟨q, hq, rfl⟩ := Option.map_eq_some_iff.mp h
        exact sndS_tup F hl hc.1 hc.2 (ie.e X c.sc _ _ F.f hq)
      · obtain ⟨hc, h⟩ := guardO_some h
        simp only [Bool.and_eq_true, Bool.not_eq_true'] at hc
        obtain ⟨q1, hq1, h⟩ := Option.bind_eq_some_iff.mp h
        obtain ⟨q2, hq2, h⟩ := Option.bind_eq_some_iff.mp h
        obtain ⟨q3, hq3, rfl⟩ := Option.map_eq_some_iff.mp h
        exact sndS_setIx F hc.1 hc.2 (ie.e X c.sc _ _ F.f hq3) (ie.e X c.sc _ _ F.f hq1) (ie.e X c.sc _ _ F.f hq2)
      · obtain ⟨hx, h⟩ := guardO_some h
        obtain ⟨k, hk, h⟩ := Option.bind_eq_some_iff.mp h
        obtain ⟨b, hb, h⟩ := Option.bind_eq_some_iff.mp h
        obtain ⟨q, hq, rfl⟩ := Option.map_eq_some_iff.mp h
        refine sndS_aug F (of_decide_eq_true hx) (ixOf_get hk) ?_ (ie.e X c.sc _ _ F.f hq)
        unfold resAug at hb
        split at hb
        · cases hb; exact .inl ⟨rfl, rfl⟩
        · cases hb; exact .inr ⟨rfl, rfl⟩
        · cases hb
      · obtain ⟨hc, h⟩ := guardO_some h
        obtain ⟨q, hq, rfl⟩ := Option.map_eq_some_iff.mp h
        exact sndS_expr (by simpa using hc) (ie.e X c.sc _ _ F.f hq)
      · obtain ⟨q1, hq1, h⟩ := Option.bind_eq_some_iff.mp h
        obtain ⟨q2, hq2, h⟩ := Option.bind_eq_some_iff.mp h
        obtain ⟨q3, hq3, rfl⟩ := Option.map_eq_some_iff.mp h
        exact sndS_if (ie.t X c.sc _ _ F.f hq1) (ih.2 F hq2) (ih.2 F hq3)
      · obtain ⟨hs, h⟩ := guardO_some h
        obtain ⟨q1, hq1, h⟩ := Option.bind_eq_some_iff.mp h
        obtain ⟨q2, hq2, h⟩ := Option.bind_eq_some_iff.mp h
        obtain ⟨q3, hq3, rfl⟩ := Option.map_eq_some_iff.mp h
        exact sndS_for F (by simpa using hs) hq1 (ie.i X c.sc _ _ _ F.f hq2) (ih.2 F hq3)
      · obtain ⟨q1, hq1, h⟩ := Option.bind_eq_some_iff.mp h
        obtain ⟨q2, hq2, rfl⟩ := Option.map_eq_some_iff.mp h
        exact sndS_while F (ie.t X c.sc _ _ F.f hq1) (ih.2 F hq2)
      · split at h
        · next r hr =>
          obtain ⟨ht, h⟩ := guardO_some h
          obtain ⟨q, hq, rfl⟩ := Option.map_eq_some_iff.mp h
          obtain ⟨j1, p1, p2, j2, p3, p4, he⟩ := retOf_eq hr
          rw [ht, he]
          exact sndS_retR (resR_ok n F.f hq)
        · obtain ⟨q, hq, rfl⟩ := Option.map_eq_some_iff.mp h
          exact sndS_ret (ie.e X c.sc _ _ F.f hq)
      · cases h; exact sndS_retN
      · cases h; exact sndS_pass
      · cases h; exact sndS_brk
      · cases h; exact sndS_cnt
      · cases h; exact sndS_bad
      · cases h
    · unfold resB at h
      split at h
      · cases h; exact sndB_nil
      · obtain ⟨q1, hq1, h⟩ := Option.bind_eq_some_iff.mp h
        obtain ⟨q2, hq2, rfl⟩ := Option.map_eq_some_iff.mp h
        exact sndB_cons (ih.1 F hq1) (ih.2 F hq2)
end
end PyI
/-! A15: defs keep what the interpreter says. -/
namespace PyI
open PySem L2 PyProof.Rows
structure FnD where
  name : Str
  ps : List Str
  N : List Str
  st : Stmt
  muts : List Str
  τ : Bool
  body : B
def locB (sc : Scope) (x : Str) : Bool := match sc.names.lookup x with
  | some .local => true
  | some .cell => true
  | _ => false
def locOf (sc : Scope) : List Str := (sc.names.map Prod.fst).filter (locB sc)
structure FnD.Ok (tb : Tb) (d : FnD) : Prop where
  res : resB 80 ⟨⟨d.N, tb⟩, defScope d.st, locOf (defScope d.st), d.muts, d.τ⟩ (defBody d.st) = some d.body
  sc : FnScope d.N d.ps (defScope d.st)
  tk : d.τ = true → (∀ y ∈ (defScope d.st).names, y.2 ≠ .cell) ∧ 1 ≤ d.ps.length
def FnD.fn (d : FnD) : Fn := ⟨d.ps.length, d.N.length, d.body⟩
/-- what a law's program gives -/
structure Prg where
  fds : List FnD
  tb : Tb
  con : Nat → Option D
  dic : Nat → List (Str × D)
  wf : Nat
def Prg.tab (p : Prg) : List Fn := p.fds.map FnD.fn
def Prg.G (p : Prg) (k : Nat) : G := ⟨callD p.tab p.con p.dic p.wf k, p.con, p.dic, p.wf⟩
structure Prg.Ok (p : Prg) : Prop where
  fns : p.tb.fns = p.fds.map fun d => (d.name, d.ps.length)
  ok : ∀ d ∈ p.fds, d.Ok p.tb
structure Prg.At (p : Prg) (P : Program) (w : World) (K : PySem.W.Frag) (mg : Str → Option Value) : Prop where
  bi : ∀ x ∈ bins, mg x = none
  con : ∀ g x d, p.tb.cons[g]? = some x → p.con g = some d → ∃ u v, mg x = some u ∧ RelV v u ∧ ∀ H M, Rep K H M v d
  dic : ∀ g x, p.tb.dics[g]? = some x → ∃ d, mg x = some (.ref d) ∧ DicAt K w d (p.dic g)
  fn : ∀ d ∈ p.fds, ∃ a fd qual, Fun K d.name qual d.st a fd ∧ mg d.name = some (.ref a) ∧ ∀ us : List Value, us.length = d.ps.length → bindArgs fd ⟨us, []⟩ = pure (d.ps.zip us)
section
variable {K : PySem.W.Frag} {ct : CTab} {H H' : Hp} {M M' : AM} {μ μ' : Mu} {Q : VK} {W : XK} {v : V} {d : D} {n : Nat}
theorem fin_ok (hn : M.ix.length = n) (h : PyI.Ok K ct (RD K) M H (fin n d μ') Q W) (e : Evo M H M' H') (R : RelH K ct H' μ' M') (r : Rep K H' M' v d) : Q v H' := by
  unfold fin at h
  by_cases h1 : μ'.length = n
  · rw [if_pos h1] at h; exact h v H' M' e R r
  · rw [if_neg h1] at h
    simp only at h
    -- the value, as it is handed back
    have key : ∀ d', (below n d' = true → Rep K H' (M'.cut n) v d') → PyI.Ok K ct (RD K) M H (if below n d' = true ∧ (μ'.take n).all (belowMO n) = true ∧ n ≤ μ'.length then Res.ok d' (μ'.take n) else .ok d μ') Q W → Q v H' := by
      intro d' hr hk
      by_cases h2 : below n d' = true ∧ (μ'.take n).all (belowMO n) = true ∧ n ≤ μ'.length
      · rw [if_pos h2] at hk
        exact hk v H' (M'.cut n) (by rw [← hn]; exact e.cut) (R.cut n h2.2.1) (hr h2.1)
      · rw [if_neg h2] at hk
        exact hk v H' M' e R r
    cases d with
    | ref k =>
      simp only at h
      by_cases h3 : n ≤ k
      · rw [if_pos h3] at h
        cases hk : μ'[k]? with
        | none => simp only [hk] at h; exact key _ (fun q => r.cut n q) h
        | some mo =>
          cases mo with
          | lst l =>
            simp only [hk] at h
            refine key _ (fun q => ?_) h
            cases r with
            | ref ha =>
              obtain ⟨xs, hx, rx⟩ := R.lst hk ha
              refine .lst (.inl ⟨.inl hx, fun z => ?_, fun z => (R.exs _ z).2 (List.mem_of_getElem? ha)⟩) (rx.cut n (by simpa only [below] using q))
              -- the place k is cut off
              have z : _ ∈ M'.ix.take n := z
              obtain ⟨j, hj, ej⟩ := List.getElem_of_mem z
              have hjn : j < n := by rw [List.length_take] at hj; omega
              have hjl : j < M'.ix.length := by rw [List.length_take] at hj; omega
              rw [List.getElem_take] at ej
              have e1 : M'.ix[j]? = M'.ix[k]? := by rw [ha, List.getElem?_eq_getElem hjl, ej]
              have := (List.getElem?_inj hjl R.nd).mp e1
              omega
          | dead => simp only [hk] at h; exact key _ (fun q => r.cut n q) h
          | ins _ _ => simp only [hk] at h; exact key _ (fun q => r.cut n q) h
          | dk _ => simp only [hk] at h; exact key _ (fun q => r.cut n q) h
      · rw [if_neg h3] at h; exact key _ (fun q => r.cut n q) h
    | non => exact key _ (fun q => r.cut n q) h
    | bl _ => exact key _ (fun q => r.cut n q) h
    | int _ => exact key _ (fun q => r.cut n q) h
    | str _ => exact key _ (fun q => r.cut n q) h
    | tup _ => exact key _ (fun q => r.cut n q) h
    | lst _ => exact key _ (fun q => r.cut n q) h
theorem finO_ok {o : Out} (hn : M.ix.length = n) (h : PyI.Ok K ct (RD K) M H (finO n o) Q W) : OkS K ct M H o { nx := fun _ H' => Q .non H', rt := Q } (fun cls d _ H' => W cls d H') := by
  cases o with
  | nx ρ μ => exact fun σ' H' M' e R E => fin_ok hn h e R .non
  | rt d μ => exact fun v H' M' e R r => fin_ok hn h e R r
  | br ρ μ => exact (h : False).elim
  | ct ρ μ => exact (h : False).elim
  | stuck => exact h
  | er c fs ρ μ =>
    intro cls d σ' H' M' e R E r
    have h : PyI.Ok K ct (RD K) M H (if μ.length = n then .err c fs μ else if belows n fs = true ∧ (μ.take n).all (belowMO n) = true ∧ n ≤ μ.length then .err c fs (μ.take n) else .err c fs μ) Q W := h
    by_cases h1 : μ.length = n
    · rw [if_pos h1] at h; exact h cls d H' M' e R r
    · rw [if_neg h1] at h
      by_cases h2 : belows n fs = true ∧ (μ.take n).all (belowMO n) = true ∧ n ≤ μ.length
      · rw [if_pos h2] at h
        obtain ⟨q1, dx, vs, q2, q3, q4⟩ := r
        exact h cls d H' (M'.cut n) (by rw [← hn]; exact e.cut) (R.cut n h2.2.1) ⟨q1, dx, vs, q2, q3, q4.cut n h2.1⟩
      · rw [if_neg h2] at h; exact h cls d H' M' e R r
theorem start_rel {N : List Str} {vs : List V} {ds : List D} (r : Reps K H M vs ds) : RelE K H M (L2.start N vs) (startR N.length ds) := by
  refine ⟨?_, fun i d h => ?_⟩
  · unfold L2.start startR
    rw [List.length_append, List.length_append, List.length_map, List.length_map, List.length_replicate, List.length_replicate, r.length]
  · unfold startR at h
    unfold L2.start
    rcases Nat.lt_or_ge i ds.length with z | z
    · rw [List.getElem?_append_left (by rw [List.length_map]; exact z), List.getElem?_map] at h
      obtain ⟨d', hd, e⟩ := Option.map_eq_some_iff.mp h
      cases e
      obtain ⟨v, hv, rv⟩ := r.get hd
      rw [List.getElem?_append_left (by rw [List.length_map, r.length]; exact z), List.getElem?_map, hv]
      exact ⟨v, rfl, rv⟩
    · rw [List.getElem?_append_right (by rw [List.length_map]; exact z)] at h
      rw [List.getElem?_replicate] at h
      split at h <;> cases h
end
section
variable {p : Prg} {P : Program} {w : World} {K : PySem.W.Frag} {mg : Str → Option Value} {base : Heap}
theorem call_stuck {f : Nat} {ds : List D} {μ : Mu} {k : Nat} {d : FnD} (hd : p.fds[f]? = some d) (h : ds.length ≠ d.ps.length) : callD p.tab p.con p.dic p.wf k f ds μ = .stuck := by
  cases k with
  | zero => rfl
  | succ k =>
    unfold callD
    have : p.tab[f]? = some d.fn := by unfold Prg.tab; rw [List.getElem?_map, hd]; rfl
    rw [this]
    exact if_neg h
theorem fns_get (ok : p.Ok) {f n : Nat} {x : Str} (h : p.tb.fns[f]? = some (x, n)) : ∃ d, p.fds[f]? = some d ∧ d.name = x ∧ d.ps.length = n := by
  rw [ok.fns, List.getElem?_map] at h
  obtain ⟨d, hd, e⟩ := Option.map_eq_some_iff.mp h
  cases e
  exact ⟨d, hd, rfl, rfl⟩
theorem all_ok (ok : p.Ok) (A0 : p.At P w K mg) (ct : CTab) : ∀ (k f : Nat) (d : FnD) (a : Addr) (fd : FuncData) (qual : Str), p.fds[f]? = some d → Fun K d.name qual d.st a fd → FnOk P w K mg base (L2.CX P w) k a fd d.ps (spF K ct (p.G k) f d.ps.length)
  | 0, f, d, a, fd, qual, hd, F => by
    have no : ∀ vs H Q E, ¬ spF K ct (p.G 0) f d.ps.length vs H Q E := fun vs H Q E h => by
      obtain ⟨ds, μ, M, _, _, _, h⟩ := h
      exact h
    exact ⟨fun vs H Q E h => absurd h (no vs H Q E), fun A outer s H args us vs Q E _ _ _ _ h => absurd h (no vs H Q E)⟩
  | k + 1, f, d, a, fd, qual, hd, F => by
    have ih := all_ok ok A0 ct k
    have dok := ok.ok d (List.mem_of_getElem? hd)
    have hlen : ∀ vs H Q E, spF K ct (p.G (k + 1)) f d.ps.length vs H Q E → vs.length = d.ps.length := fun vs H Q E h => h.choose_spec.choose_spec.choose_spec.1
    have body : ∀ (cdv : Value) (A : Around) (outer : List Env) (s : Shared) (H : Hp) (vs : List V) (Q : VK) (E : XK), Room k (A.deeper (envOfC qual (defScope d.st) s.heap.objs.size a cdv)) → spF K ct (p.G (k + 1)) f d.ps.length vs H Q E →
        wB d.τ (cxOf (L2.CX P w) P w K mg base d.N qual (defScope d.st) a cdv A outer s H E) (defBody d.st) { nx := fun _ H' => Q .non H', rt := Q } (L2.start d.N vs) H := by
      intro cdv A outer s H vs Q E hr h
      obtain ⟨ds, μ, M, hl, R, r, h⟩ := h
      have ht : p.tab[f]? = some d.fn := by unfold Prg.tab; rw [List.getElem?_map, hd]; rfl
      have hdl : ds.length = d.ps.length := by rw [← r.length, hl]
      have h2 : PyI.Ok K ct (RD K) M H (finO μ.length (runB (p.G k) d.body (startR d.N.length ds) μ)) Q E := by
        have e : (p.G (k + 1)).call f ds μ = finO μ.length (runB (p.G k) d.body (startR d.N.length ds) μ) := by
          show callD p.tab p.con p.dic p.wf (k + 1) f ds μ = _
          unfold callD
          rw [ht]
          exact if_pos hdl
        rw [e] at h
        exact h
      let X := cxOf (L2.CX P w) P w K mg base d.N qual (defScope d.st) a cdv A outer s H E
      have fr : FrS X ct p.tb (p.G k) d.N (defScope d.st) (locOf (defScope d.st)) := by
        refine ⟨⟨rfl, rfl, dok.sc.nd, rfl, dok.sc.kind, ⟨hr.units, A0.bi, fun f' x n hf => ?_, fun f' x n ds μ hf hne => ?_, A0.con, A0.dic⟩⟩, fun x hx => ?_, passes_of rfl⟩
        · obtain ⟨d', hd', rfl, rfl⟩ := fns_get ok hf
          obtain ⟨a', fd', q', F', hm, hb⟩ := A0.fn d' (List.mem_of_getElem? hd')
          exact ⟨k, a', fd', d'.ps, ih f' d' a' fd' q' hd' F', hr, hm, F'.kp, .all hb⟩
        · obtain ⟨d', hd', rfl, rfl⟩ := fns_get ok hf
          exact call_stuck hd' hne
        · have hb := (List.mem_filter.mp hx).2
          unfold locB at hb
          refine ⟨?_, .inl rfl⟩
          split at hb
          · next q => exact .inl q
          · next q => exact .inr q
          · cases hb
      exact (resS_ok (c := ⟨⟨d.N, p.tb⟩, defScope d.st, locOf (defScope d.st), d.muts, d.τ⟩) (ct := ct) (Γ := p.G k) 80).2 (X := X) fr dok.res (fun cls d _ H => E cls d H) (startR d.N.length ds) μ (L2.start d.N vs) H M _ (takes_of rfl rfl rfl rfl) (start_rel r) R (finO_ok R.len h2)
    cases ht : d.τ with
    | false =>
      refine F.okX dok.sc hlen (fun cdv A outer s H vs Q E hr h => ?_)
      have b := body cdv A outer s H vs Q E hr h
      rw [ht] at b
      exact ⟨wB false _ _, ⟨fun pins s σ H D I q => q pins s (fun z => by cases z) I⟩, b⟩
    | true =>
      obtain ⟨oc, od, kV, doc, pm, an, cdv, ct', osl, rfl, lk, hcd⟩ := F.ex
      obtain ⟨hnc, hps⟩ := dok.tk ht
      refine fn_ofT lk hcd dok.sc hnc hps hlen fun A outer s H vs Q E hr h => ?_
      have b := body cdv A outer s H vs Q E hr h
      rw [ht] at b
      exact ⟨wB true _ _, fun pins s σ H D h0 I q => q pins s (fun _ => h0) I, b⟩
end
end PyI
/-! A16: a law's end. -/
namespace PyI
open PySem L2
section
variable {K : PySem.W.Frag} {h : Heap} {mg : Str → Option Value} {w : World}
theorem defAt {name qual : Str} {st : Stmt} {ps : List Str} (X : K.In h) (G : h.Ns mainGlobals mg) {f : Addr} {od an : Option Addr} {sl : Array (Option Value)} {oc kV dc pm cd ct : Value}
    (hb : ∀ (kV doc pm : Value) (an : Option Addr) (cdv ct : Value) (us : List Value), us.length = ps.length → bindArgs (PySem.W.fnOf name qual (defArgs st) (defBody st) (defScope st) .none kV doc pm an cdv ct) ⟨us, []⟩ = pure (ps.zip us))
    (a : PySem.W.nsIn K mainGlobals name = some (some (.ref f)))
    (l : K.lookup f = some ⟨oc, od, .func (PySem.W.fnOf name qual (defArgs st) (defBody st) (defScope st) .none kV dc pm an cd ct), sl⟩) (c : PySem.W.codeIn K cd qual = true) (k : PySem.W.keepIn K (.ref f) = true) :
    ∃ a fd q, Fun K name q st a fd ∧ mg name = some (.ref a) ∧ ∀ us : List Value, us.length = ps.length → bindArgs fd ⟨us, []⟩ = pure (ps.zip us) :=
  ⟨f, _, qual, fun_mk l c k, PySem.W.mg_of X G a, hb _ _ _ _ _ _⟩
theorem biAll (X : K.In h) (G : h.Ns mainGlobals mg)
    (z0 : PySem.W.nsIn K mainGlobals "len" = some none)
    (z1 : PySem.W.nsIn K mainGlobals "int" = some none)
    (z2 : PySem.W.nsIn K mainGlobals "str" = some none)
    (z3 : PySem.W.nsIn K mainGlobals "tuple" = some none)
    (z4 : PySem.W.nsIn K mainGlobals "list" = some none)
    (z5 : PySem.W.nsIn K mainGlobals "sorted" = some none)
    (z6 : PySem.W.nsIn K mainGlobals "min" = some none)
    (z7 : PySem.W.nsIn K mainGlobals "max" = some none)
    (z8 : PySem.W.nsIn K mainGlobals "sum" = some none)
    (z9 : PySem.W.nsIn K mainGlobals "any" = some none)
    (z10 : PySem.W.nsIn K mainGlobals "all" = some none)
    (z11 : PySem.W.nsIn K mainGlobals "abs" = some none)
    (z12 : PySem.W.nsIn K mainGlobals "ord" = some none)
    (z13 : PySem.W.nsIn K mainGlobals "bool" = some none)
    (z14 : PySem.W.nsIn K mainGlobals "isinstance" = some none)
    (z15 : PySem.W.nsIn K mainGlobals "range" = some none)
    (z16 : PySem.W.nsIn K mainGlobals "enumerate" = some none)
    (z17 : PySem.W.nsIn K mainGlobals "zip" = some none)
    (z18 : PySem.W.nsIn K mainGlobals "set" = some none)
    (z19 : PySem.W.nsIn K mainGlobals "type" = some none)
    (z20 : PySem.W.nsIn K mainGlobals "reversed" = some none) :
    ∀ x ∈ bins, mg x = none := by
  intro x hx
  simp only [bins, List.mem_cons, List.not_mem_nil, or_false] at hx
  rcases hx with rfl | rfl | rfl | rfl | rfl | rfl | rfl | rfl | rfl | rfl | rfl | rfl | rfl | rfl | rfl | rfl | rfl | rfl | rfl | rfl | rfl
  · exact PySem.W.mg_none_of X G z0
  · exact PySem.W.mg_none_of X G z1
  · exact PySem.W.mg_none_of X G z2
  · exact PySem.W.mg_none_of X G z3
  · exact PySem.W.mg_none_of X G z4
  · exact PySem.W.mg_none_of X G z5
  · exact PySem.W.mg_none_of X G z6
  · exact PySem.W.mg_none_of X G z7
  · exact PySem.W.mg_none_of X G z8
  · exact PySem.W.mg_none_of X G z9
  · exact PySem.W.mg_none_of X G z10
  · exact PySem.W.mg_none_of X G z11
  · exact PySem.W.mg_none_of X G z12
  · exact PySem.W.mg_none_of X G z13
  · exact PySem.W.mg_none_of X G z14
  · exact PySem.W.mg_none_of X G z15
  · exact PySem.W.mg_none_of X G z16
  · exact PySem.W.mg_none_of X G z17
  · exact PySem.W.mg_none_of X G z18
  · exact PySem.W.mg_none_of X G z19
  · exact PySem.W.mg_none_of X G z20
theorem conInt {x : Str} {i : Int} {t : Tok} (X : K.In h) (G : h.Ns mainGlobals mg) (a : PySem.W.nsIn K mainGlobals x = some (some (.int i t))) : ∃ u v, mg x = some u ∧ RelV v u ∧ ∀ H M, Rep K H M v (.int i) := ⟨_, .int i, PySem.W.mg_of X G a, ⟨t, rfl⟩, fun _ _ => .int i⟩
theorem conStr {x : Str} {i : Str} {t : Tok} (X : K.In h) (G : h.Ns mainGlobals mg) (a : PySem.W.nsIn K mainGlobals x = some (some (.str i t))) : ∃ u v, mg x = some u ∧ RelV v u ∧ ∀ H M, Rep K H M v (.str i) := ⟨_, .str i, PySem.W.mg_of X G a, ⟨t, rfl⟩, fun _ _ => .str i⟩
/-- a written dict and its pairs -/
def EntRel (K : PySem.W.Frag) : List DictEntry → List (Str × D) → Prop := Paired fun e p => (∃ t, e.key = .str p.1 t) ∧ ∃ v, RelV v e.val ∧ ∀ H M, Rep K H M v p.2
theorem ent_find {d : Addr} : ∀ {es : List DictEntry} {l : List (Str × D)}, EntRel K es l → ∀ z, match l.lookup z with
    | none => es.find? (·.key.isStr z) = none ∧ es.any (·.refKey) = false
    | some dd => ∃ e v, es.find? (·.key.isStr z) = some e ∧ RelV v e.val ∧ ∀ H M, Rep K H M v dd
  | _, _, .nil, z => ⟨rfl, rfl⟩
  | _, _, .cons (a := e) (b := p) h r, z => by
    obtain ⟨⟨t, ht⟩, v, hv, hr⟩ := h
    have ih := ent_find (d := d) r z
    obtain ⟨x, dd⟩ := p
    by_cases e1 : z = x
    · subst e1
      simp only [List.lookup, beq_self_eq_true]
      refine ⟨e, v, ?_, hv, hr⟩
      rw [List.find?_cons, ht]
      have : (Value.str z t).isStr z = true := by simp [Value.isStr]
      rw [this]
    · have e2 : (z == x) = false := beq_eq_false_iff_ne.mpr e1
      simp only [List.lookup, e2]
      have e3 : e.key.isStr z = false := by rw [ht]; simp [Value.isStr]; exact fun q => e1 q.symm
      have e4 : e.refKey = false := by unfold DictEntry.refKey; rw [ht]
      rw [List.find?_cons, e3, List.any_cons, e4]
      simpa using ih
theorem dicAt {d : Addr} {es : Array DictEntry} {n : Nat} {l : List (Str × D)} {x : Str} (X : K.In h) (G : h.Ns mainGlobals mg) (a : PySem.W.nsIn K mainGlobals x = some (some (.ref d))) (lk : K.lookup d = some ⟨.type "dict", none, .dict es n, #[]⟩)
    (lit : PySem.W.KeysLit w.params es.toList) (low : (d == sysModules) = false) (er : EntRel K es.toList l) : ∃ d, mg x = some (.ref d) ∧ DicAt K w d l := by
  refine ⟨d, PySem.W.mg_of X G a, es, n, ⟨lk, lit, low⟩, fun z => ?_⟩
  have q := ent_find (d := d) er z
  cases hz : l.lookup z with
  | none =>
    rw [hz] at q
    show PySem.W.nsIn K d z = some none
    unfold PySem.W.nsIn
    rw [lk]
    simp only [q.1, q.2, Bool.false_eq_true, if_false]
  | some dd =>
    rw [hz] at q
    obtain ⟨e, v, q1, q2, q3⟩ := q
    refine ⟨e.val, v, ?_, q2, q3⟩
    unfold PySem.W.nsIn
    rw [lk]
    simp only [q1]
end
/-- a def called law, of one argument -/
theorem law_fn {p : Prg} {P : Program} {w : World} {K : PySem.W.Frag} {mg : Str → Option Value} (ok : p.Ok) (A0 : p.At P w K mg) (ct : CTab) {fa : Addr} {f : Nat} {d : FnD} (hfa : mg "law" = some (.ref fa)) (hd : p.fds[f]? = some d) (hn : d.name = "law") (hps : d.ps = [("script" : Str)]) (k : Nat) :
    ∃ fd : FuncData, (∀ (s : Shared) (v : Value), BindsTo s fd ⟨[v], []⟩ [("script", v)]) ∧ ∀ base : Heap, FnOk P w K mg base (L2.CX P w) k fa fd ["script"] (spF K ct (p.G k) f 1) := by
  obtain ⟨a, fd, q, F, hm, hb⟩ := A0.fn d (List.mem_of_getElem? hd)
  rw [hn, hfa] at hm
  cases hm
  refine ⟨fd, fun s v => .of_eq (by have := hb [v] (by rw [hps]; rfl); rw [hps] at this; exact this), fun base => ?_⟩
  have := all_ok (base := base) ok A0 ct k f d fa fd q hd F
  rw [hps] at this
  exact this
theorem law_walk {p : Prg} {ct : CTab} {f kk : Nat} {l : PySem.W.OpenLaw} {q : Program} {loose : List Str} {XP : (Str → Option Value) → Heap → Prop} {YP : World → Heap → Prop} {d : DefRec} {K : Params → PySem.W.Frag} (hn : l.most = some 63) (hdf : d.params.defaults = []) (hr : Room kk callerA)
    (hY : ∀ (w : World) (h : Heap), YP w h → (K w.params).In h)
    (main : ∀ ns : List Int, ns.length ≤ 63 → ∃ μ', callD p.tab p.con p.dic p.wf kk f [.lst (ns.map D.int)] [] = .ok (.bl true) μ')
    (F : ∀ (w : World) (mg : Str → Option Value) (fa : Addr) (h : Heap), (K w.params).In h → h.Ns mainGlobals mg → mg d.name = some (.ref fa) →
      ∃ fd : FuncData, (∀ (s : Shared) (u : Value), BindsTo s fd ⟨[u], []⟩ [("script", u)]) ∧ ∀ base : Heap, FnOk l.prog w (K w.params) mg base (L2.CX l.prog w) kk fa fd ["script"] (spF (K w.params) ct (p.G kk) f 1)) :
    PySem.W.WalkO q loose XP YP l.row.toRowW d [] (fun f vs => PySem.call f vs) := by
  refine L2.walk_of (n := 63) (k := kk) (x := "script") (CX := fun w => L2.CX l.prog w) (sp := fun w => spF (K w.params) ct (p.G kk) f 1) hn (by decide) hdf hr hY (fun w mg fa h a b c => ?_) (fun w H a ns hl _ hS => ?_) fun w H s e s' z => ?_
  · obtain ⟨fd, h1, h2⟩ := F w mg fa h a b c
    exact ⟨fd, h1, fun base _ _ => h2 base⟩
  · obtain ⟨μ', hm⟩ := main ns hl
    refine ⟨[.lst (ns.map D.int)], [], ⟨[], []⟩, rfl, ⟨rfl, by show ([] : List Addr).Nodup; simp, fun n mo q => (by simp at q), fun a q => (by cases q)⟩, ?_, ?_⟩
    · refine .cons (.lst (xs := ns.map V.int) ?_ ?_) .nil
      · rcases hS with z | z
        · exact .inl ⟨z, ⟨fun q => (by cases q), fun q => (by cases q)⟩⟩
        · exact .inr (.inr z)
      · clear hl hS hm
        induction ns with
        | nil => exact .nil
        | cons n ns ih => exact .cons (.int n) ih
    · have e : (p.G kk).call f [.lst (ns.map D.int)] [] = .ok (.bl true) μ' := hm
      rw [e]
      intro v H' M' _ _ r
      cases r
      rfl
  · obtain ⟨_, _, _, _, _, _, _, _, _, _, _, _, x⟩ := z
    exact x
end PyI
/-! A17: texts as lists of codes; small facts of the interpreter. -/
namespace PyI
open PySem L2
def tx (l : List Nat) : Str := ⟨l.toArray⟩
theorem tx_l (l : List Nat) : (tx l).cps.toList = l := rfl
theorem tx_len (l : List Nat) : (tx l).length = l.length := by simp [tx, Str.length]
theorem tx_ext {x : Str} {l : List Nat} (h : x.cps.toList = l) : x = tx l := TL.ext_tl h
theorem tx_self (x : Str) : x = tx x.cps.toList := TL.ext_tl rfl
theorem tx_inj {a b : List Nat} : (tx a = tx b) ↔ a = b := ⟨fun h => congrArg (fun x : Str => x.cps.toList) h, fun h => by rw [h]⟩
theorem tx_add (a b : List Nat) : tx a ++ tx b = tx (a ++ b) := TL.ext_tl (by rw [TL.tl_append]; rfl)
theorem tx_beq (a b : List Nat) : (tx a == tx b) = (a == b) := by
  by_cases h : a = b
  · subst h; simp
  · rw [beq_eq_false_iff_ne.mpr h, beq_eq_false_iff_ne.mpr (fun e => h (tx_inj.mp e))]
theorem tx_all (l : List Nat) (p : Nat → Bool) : (tx l).cps.all p = l.all p := by simp [tx]
/-- a cut at numbers -/
theorem tx_cut (l : List Nat) {i j : Int} (a b : Nat) (hi : i = a) (hj : j = b) : cutS (tx l) (some i) (some j) = tx ((l.drop a).take (b - a)) := by
  subst hi hj
  refine tx_ext ?_
  show (l.drop _).take _ = _
  rw [HT.sIx_nat, HT.sIx_nat, tx_len]
  by_cases ha : a ≤ l.length
  · rw [Nat.min_eq_left ha]
    by_cases hb : b ≤ l.length
    · rw [Nat.min_eq_left hb]
    · rw [Nat.min_eq_right (by omega), List.take_of_length_le (by simp), List.take_of_length_le (by simp; omega)]
  · rw [List.drop_eq_nil_of_le (by omega), List.drop_eq_nil_of_le (by omega), List.take_nil, List.take_nil]
/-- text[at:at+1] -/
theorem cut_at (p : List Nat) (c : Nat) (r : List Nat) {i j : Int} (hi : i = p.length) (hj : j = p.length + 1) : cutS (tx (p ++ c :: r)) (some i) (some j) = tx [c] := by
  rw [tx_cut _ p.length (p.length + 1) hi (by omega)]
  simp
theorem cut_mid (p q r : List Nat) {i j : Int} (hi : i = p.length) (hj : j = p.length + q.length) : cutS (tx (p ++ (q ++ r))) (some i) (some j) = tx q := by
  rw [tx_cut _ p.length (p.length + q.length) hi (by omega)]
  simp
theorem cut_end (p : List Nat) {i j : Int} (hi : i = p.length) (hj : j = p.length + 1) : cutS (tx p) (some i) (some j) = tx [] := by
  rw [tx_cut _ p.length (p.length + 1) hi (by omega)]
  simp
theorem tx_in (c : Nat) (l : List Nat) : (!(Builtin.Str.occurrences (tx l) (tx [c]) 0 (tx l).length 1).isEmpty) = decide (c ∈ l) := PySem.StrLaws.found_one (tx l) c
theorem tx_repl (l y z : List Nat) (hy : y ≠ []) : Txt.replace (tx l) (tx y) (tx z) = tx (StrLaws.replL y z l) := tx_ext (StrLaws.replace_list (by
  rw [tx_len]
  cases y with
  | nil => exact absurd rfl hy
  | cons => simp))
theorem tx_join (y : List Nat) (ps : List (List Nat)) : Txt.join (tx y) (ps.map tx) = tx (TL.joinL y ps) := by
  refine tx_ext ?_
  rw [TL.join_eq]
  refine (TL.tl_join (tx y) (ps.map tx)).trans ?_
  rw [List.map_map]
  show TL.joinL y (ps.map (TL.tl ∘ tx)) = _
  congr 1
  exact List.map_id _
theorem tx_split (l y : List Nat) (hy : y ≠ []) (hk : y.all (· < 256) = true) : Txt.split (tx l) (tx y) = (TL.spl y 0 [] l).map tx := by
  refine TL.map_tl_inj ?_
  rw [TL.split_spl _ _ hy (TL.kind_ok (by rw [tx_all]; exact hk)), List.map_map]
  exact (List.map_id _).symm
theorem tx_find (a b r : List Nat) (c : Nat) {i : Int} (hi : i = a.length) (h : c ∉ b) : Txt.find3 (tx (a ++ (b ++ c :: r))) (tx [c]) i = ((a.length + b.length : Nat) : Int) := by
  have fi : fromIndex (tx (a ++ (b ++ c :: r))).length i = a.length := by
    subst hi
    unfold fromIndex
    rw [if_neg (by omega)]
    omega
  have g : ∀ v, (tx (a ++ (b ++ c :: r))).cps.getD v 0 = (a ++ (b ++ c :: r)).getD v 0 := fun v => by simp [tx]
  have hit : (a ++ (b ++ c :: r)).getD (a.length + b.length) 0 = c := by
    rw [← List.append_assoc]
    simp [List.getD]
  have low : ∀ v, a.length ≤ v → v < a.length + b.length → (a ++ (b ++ c :: r)).getD v 0 ≠ c := fun v h1 h2 e => by
    rw [List.getD, List.getElem?_append_right h1, List.getElem?_append_left (by omega), List.getElem?_eq_getElem (by omega)] at e
    exact h (e ▸ List.getElem_mem _)
  rcases StrLaws.find3_spec (tx (a ++ (b ++ c :: r))) c i with ⟨h1, hn⟩ | ⟨k, h1, hlo, hlt, hk, hn⟩
  · refine absurd ((g _).trans hit) (hn _ (by rw [fi]; omega) (by rw [tx_len]; simp))
  · rw [fi] at hlo hn
    have e : k = a.length + b.length := by
      rcases Nat.lt_trichotomy k (a.length + b.length) with q | q | q
      · exact absurd ((g k).symm.trans hk) (low k hlo q)
      · exact q
      · exact absurd ((g _).trans hit) (hn _ (by omega) q)
    rw [← e]
    exact h1

/-! ### the numbers' texts -/
/-- the codes of a number -/
def intL : Int → List Nat
  | .ofNat n => TL.numL n
  | .negSucc n => 45 :: TL.numL (n + 1)
theorem tx_int (i : Int) : (Str.ofString (toString i) : Str) = tx (intL i) := by
  cases i with
  | ofNat n => exact tx_ext (TL.tl_num n)
  | negSucc n =>
    refine tx_ext ?_
    have e : toString (Int.negSucc n) = "-" ++ toString ((n + 1 : Nat) : Int) := rfl
    rw [e]
    show TL.tl (Str.ofString ("-" ++ _)) = _
    rw [TL.tl_ofString, String.toList_append, List.map_append, ← TL.tl_ofString (toString ((n + 1 : Nat) : Int)), TL.tl_num]
    rfl
theorem int_back (i : Int) (h : (intL i).length ≤ 640) : intText? (tx (intL i)) = some i := by
  cases i with
  | ofNat n =>
    rw [← tx_int]
    exact TL.int_num (show (intL (Int.ofNat n)).length ≤ 4300 by omega)
  | negSucc n =>
    rw [intText_neg (cs := TL.numL (n + 1)) rfl (TL.numL_digits _) (TL.numL_ne _) (by rw [tx_len]; omega), TL.numL_val]
    rfl

/-! ### heaps -/
theorem fin_same {d : D} {μ : Mu} {n : Nat} (h : μ.length = n) : fin n d μ = .ok d μ := if_pos h
mutual
/-- no references -/
def pureD : D → Bool
  | .ref _ => false
  | .tup l => pureDs l
  | .lst l => pureDs l
  | _ => true
def pureDs : List D → Bool
  | [] => true
  | d :: ds => pureD d && pureDs ds
end
mutual
theorem pureD.below (n : Nat) : ∀ {d : D}, pureD d = true → below n d = true
  | .non, _ | .bl _, _ | .int _, _ | .str _, _ => rfl
  | .ref _, h => by cases h
  | .tup l, h => pureDs.belows n (l := l) h
  | .lst l, h => pureDs.belows n (l := l) h
theorem pureDs.belows (n : Nat) : ∀ {l : List D}, pureDs l = true → belows n l = true
  | [], _ => rfl
  | d :: l, h => by
    simp only [pureDs, Bool.and_eq_true] at h
    simp only [PyI.belows, Bool.and_eq_true]
    exact ⟨pureD.below n h.1, pureDs.belows n h.2⟩
end
theorem pureDs_append : ∀ {l m : List D}, pureDs (l ++ m) = (pureDs l && pureDs m)
  | [], m => by simp [pureDs]
  | d :: l, m => by simp [pureDs, pureDs_append, Bool.and_assoc]
theorem pureDs_map {α : Type} {f : α → D} (h : ∀ a, pureD (f a) = true) : ∀ l : List α, pureDs (l.map f) = true
  | [] => rfl
  | a :: l => by simp [pureDs, h a, pureDs_map h l]
/-- a heap of lists without references -/
def PureM (μ : Mu) : Prop := ∀ m ∈ μ, ∃ l, m = .lst l ∧ pureDs l = true
theorem PureM.all {μ : Mu} (h : PureM μ) (n : Nat) : μ.all (belowMO n) = true := List.all_eq_true.mpr fun m hm => by
  obtain ⟨l, rfl, hl⟩ := h m hm
  exact pureDs.belows n hl
theorem PureM.snoc {μ : Mu} (h : PureM μ) {l : List D} (hl : pureDs l = true) : PureM (μ ++ [.lst l]) := fun m hm => by
  rcases List.mem_append.mp hm with q | q
  · exact h m q
  · exact ⟨l, List.mem_singleton.mp q, hl⟩
/-- one list of its own was made, and is forgotten -/
theorem fin_one {d : D} {μ : Mu} {l : MO} (h : PureM μ) (hd : pureD d = true) : fin μ.length d (μ ++ [l]) = .ok d μ := by
  have hb := pureD.below μ.length hd
  have hm : ((μ ++ [l]).take μ.length).all (belowMO μ.length) = true := by rw [List.take_left']; exact h.all _; rfl
  have ht : (μ ++ [l]).take μ.length = μ := List.take_left' rfl
  unfold fin
  rw [if_neg (by simp)]
  cases d with
  | ref k => cases hd
  | _ =>
    simp only []
    rw [if_pos ⟨hb, hm, by simp⟩, ht]
/-- one list of its own was made, and is handed back -/
theorem fin_ret {μ : Mu} {l : List D} (h : PureM μ) (hd : pureDs l = true) : fin μ.length (.ref μ.length) (μ ++ [.lst l]) = .ok (.lst l) μ := by
  unfold fin
  rw [if_neg (by simp)]
  have e : (μ ++ [MO.lst l])[μ.length]? = some (.lst l) := by simp
  simp only [e, Nat.le_refl, if_true]
  rw [if_pos ⟨pureDs.belows _ hd, by rw [List.take_left']; exact h.all _; rfl, by simp⟩, List.take_left']
  rfl
theorem snoc_get {μ : Mu} {m : MO} : (μ ++ [m])[μ.length]? = some m := by simp
theorem snoc_set {μ : Mu} {m m' : MO} : (μ ++ [m]).set μ.length m' = μ ++ [m'] := by simp

/-! ### stepping: only what stands first is looked at -/
theorem bind_ok {α β : Type} {a : α} {μ : Mu} {f : α → Mu → Res β} : (Res.ok a μ).bind f = f a μ := rfl
theorem then_ok {α : Type} {a : α} {μ : Mu} {ρ : Rho} {f : α → Mu → Out} : (Res.ok a μ).then ρ f = f a μ := rfl
theorem next_nx {ρ : Rho} {μ : Mu} {f : Rho → Mu → Out} : (Out.nx ρ μ).next f = f ρ μ := rfl
theorem next_rt {d : D} {μ : Mu} {f : Rho → Mu → Out} : (Out.rt d μ).next f = .rt d μ := rfl
theorem next_br {ρ : Rho} {μ : Mu} {f : Rho → Mu → Out} : (Out.br ρ μ).next f = .br ρ μ := rfl
theorem next_ct {ρ : Rho} {μ : Mu} {f : Rho → Mu → Out} : (Out.ct ρ μ).next f = .ct ρ μ := rfl
theorem finO_rt {n : Nat} {d : D} {μ : Mu} : finO n (.rt d μ) = fin n d μ := rfl
theorem finO_nx {n : Nat} {ρ : Rho} {μ : Mu} : finO n (.nx ρ μ) = fin n .non μ := rfl

theorem run_nx {Γ : G} {s : PyI.S} {b : B} {ρ ρ' : Rho} {μ μ' : Mu} {o : Out} (h : runS Γ s ρ μ = .nx ρ' μ') (h2 : runB Γ b ρ' μ' = o) : runB Γ (.cons s b) ρ μ = o := by
  rw [runB, h]
  exact h2
theorem run_rt {Γ : G} {s : PyI.S} {b : B} {ρ : Rho} {μ μ' : Mu} {d : D} (h : runS Γ s ρ μ = .rt d μ') : runB Γ (.cons s b) ρ μ = .rt d μ' := by
  rw [runB, h]
  rfl
theorem for_rng {f : D → Rho → Mu → Out} {lo : Int} (I : Nat → Rho → Mu → Prop) : ∀ (m n : Nat) {ρ : Rho} {μ : Mu}, I n ρ μ →
    (∀ i, n ≤ i → i < n + m → ∀ ρ μ, I i ρ μ → (∃ ρ' μ', f (.int (lo + (i : Int))) ρ μ = .nx ρ' μ' ∧ I (i + 1) ρ' μ') ∨ (∃ ρ' μ', f (.int (lo + (i : Int))) ρ μ = .br ρ' μ' ∧ I (n + m) ρ' μ')) →
    ∃ ρ' μ', forLoop f (chkOf none) ((List.range' n m).map fun (i : Nat) => D.int (lo + (i : Int))) ρ μ = .nx ρ' μ' ∧ I (n + m) ρ' μ'
  | 0, n, ρ, μ, h0, _ => ⟨ρ, μ, rfl, h0⟩
  | m + 1, n, ρ, μ, h0, hs => by
    rw [List.range'_succ, List.map_cons]
    unfold forLoop
    rw [if_pos (show chkOf none μ = true from rfl)]
    rcases hs n (Nat.le_refl _) (by omega) ρ μ h0 with ⟨ρ', μ', e, h1⟩ | ⟨ρ', μ', e, h1⟩
    · rw [e]
      have r := for_rng I m (n + 1) h1 fun i h2 h3 ρ μ hi => by
        have z := hs i (by omega) (by omega) ρ μ hi
        rw [show n + (m + 1) = n + 1 + m by omega] at z
        exact z
      rw [show n + (m + 1) = n + 1 + m by omega]
      exact r
    · rw [e]
      exact ⟨ρ', μ', rfl, h1⟩
/-- for k in range(lo, lo + n) -/
theorem for_range {f : D → Rho → Mu → Out} {lo : Int} {n : Nat} {ρ : Rho} {μ : Mu} (I : Nat → Rho → Mu → Prop) (h0 : I 0 ρ μ)
    (hs : ∀ i, i < n → ∀ ρ μ, I i ρ μ → (∃ ρ' μ', f (.int (lo + (i : Int))) ρ μ = .nx ρ' μ' ∧ I (i + 1) ρ' μ') ∨ (∃ ρ' μ', f (.int (lo + (i : Int))) ρ μ = .br ρ' μ' ∧ I n ρ' μ')) :
    ∃ ρ' μ', forLoop f (chkOf none) (rngD lo n) ρ μ = .nx ρ' μ' ∧ I n ρ' μ' := by
  have r := for_rng (f := f) (lo := lo) I n 0 h0 (fun i _ h3 ρ μ hi => by
    have z := hs i (by omega) ρ μ hi
    rw [Nat.zero_add]
    exact z)
  rw [Nat.zero_add] at r
  unfold rngD
  rw [List.range_eq_range']
  exact r
/-- a comprehension whose items change nothing -/
theorem comp_map {f : D → Mu → Res (Option D)} {g : D → D} {μ : Mu} : ∀ {ds acc : List D}, (∀ d ∈ ds, f d μ = .ok (some (g d)) μ) → acc.length + ds.length ≤ 16777216 → compLoop f (chkOf none) acc ds μ = .ok (acc ++ ds.map g) μ
  | [], acc, _, _ => by
    unfold compLoop
    rw [if_pos (show chkOf none μ = true from rfl), List.map_nil, List.append_nil]
  | d :: ds, acc, h, hl => by
    rw [List.length_cons] at hl
    unfold compLoop
    rw [if_pos (show chkOf none μ = true from rfl), h d (List.mem_cons_self ..)]
    simp only []
    rw [needs_pos (by omega), comp_map (fun e he => h e (List.mem_cons_of_mem _ he)) (by simp; omega)]
    simp
theorem comp_inv {f : D → Mu → Res (Option D)} (I : Mu → Prop) (P : D → Prop) : ∀ {ds acc : List D} {μ : Mu}, (∀ d ∈ ds, ∀ μ, I μ → ∃ y μ', f d μ = .ok (some y) μ' ∧ P y ∧ I μ') → acc.length + ds.length ≤ 16777216 →
    (∀ y ∈ acc, P y) → I μ → ∃ l μ', compLoop f (chkOf none) acc ds μ = .ok l μ' ∧ (∀ y ∈ l, P y) ∧ l.length = acc.length + ds.length ∧ I μ'
  | [], acc, μ, _, _, ha, hi => by
    unfold compLoop
    rw [if_pos (show chkOf none μ = true from rfl)]
    exact ⟨acc, μ, rfl, ha, rfl, hi⟩
  | d :: ds, acc, μ, h, hl, ha, hi => by
    rw [List.length_cons] at hl
    obtain ⟨y, μ', e, hy, hi'⟩ := h d (List.mem_cons_self ..) μ hi
    unfold compLoop
    rw [if_pos (show chkOf none μ = true from rfl), e]
    simp only []
    rw [needs_pos (by omega)]
    obtain ⟨l, μ2, r1, r2, r3, r4⟩ := comp_inv I P (ds := ds) (acc := acc ++ [y]) (μ := μ') (fun e he => h e (List.mem_cons_of_mem _ he)) (by simp; omega) (fun z hz => by
      rcases List.mem_append.mp hz with q | q
      · exact ha z q
      · rw [List.mem_singleton.mp q]; exact hy) hi'
    refine ⟨l, μ2, r1, r2, ?_, r4⟩
    rw [r3]
    simp
    omega
theorem strs_map (l : List Str) : strsOf (l.map D.str) = some l := by
  induction l with
  | nil => rfl
  | cons a l ih => simp only [List.map_cons, strsOf, ih]; rfl
theorem for_inv {f : D → Rho → Mu → Out} (I : List D → Rho → Mu → Prop) : ∀ {ds : List D} {ρ : Rho} {μ : Mu}, I ds ρ μ →
    (∀ d ds ρ μ, I (d :: ds) ρ μ → ∃ ρ' μ', f d ρ μ = .nx ρ' μ' ∧ I ds ρ' μ') → ∃ ρ' μ', forLoop f (chkOf none) ds ρ μ = .nx ρ' μ' ∧ I [] ρ' μ'
  | [], ρ, μ, h, _ => ⟨ρ, μ, by unfold forLoop; rw [if_pos (show chkOf none μ = true from rfl)], h⟩
  | d :: ds, ρ, μ, h, hs => by
    obtain ⟨ρ', μ', e, h1⟩ := hs d ds ρ μ h
    unfold forLoop
    rw [if_pos (show chkOf none μ = true from rfl), e]
    exact for_inv I h1 hs
/-- m more rounds -/
theorem whl_inv {c : Rho → Mu → Res Bool} {f : Rho → Mu → Out} (I : Nat → Rho → Mu → Prop) (hs : ∀ m ρ μ, I (m + 1) ρ μ → c ρ μ = .ok true μ ∧ ∃ ρ' μ', f ρ μ = .nx ρ' μ' ∧ I m ρ' μ') (h0 : ∀ ρ μ, I 0 ρ μ → c ρ μ = .ok false μ) :
    ∀ {m n : Nat} {ρ : Rho} {μ : Mu}, m < n → I m ρ μ → ∃ ρ' μ', whileLoop c f n ρ μ = .nx ρ' μ' ∧ I 0 ρ' μ'
  | m, 0, _, _, h, _ => absurd h (Nat.not_lt_zero _)
  | 0, n + 1, ρ, μ, _, hi => ⟨ρ, μ, by
    unfold whileLoop
    rw [h0 _ _ hi]
    rfl, hi⟩
  | m + 1, n + 1, ρ, μ, h, hi => by
    obtain ⟨e, ρ', μ', e2, h1⟩ := hs m ρ μ hi
    unfold whileLoop
    rw [e]
    show ∃ a b, (match f ρ μ with
      | .nx ρ' μ' => whileLoop c f n ρ' μ'
      | .ct ρ' μ' => whileLoop c f n ρ' μ'
      | .br ρ' μ' => .nx ρ' μ'
      | o => o) = .nx a b ∧ _
    rw [e2]
    exact whl_inv I hs h0 (Nat.lt_of_succ_lt_succ h) h1
theorem lt_one (a b : Nat) : ltS (tx [a]) (tx [b]) = decide (a < b) := by
  unfold ltS
  rw [tx_l, tx_l]
  refine decide_eq_decide.mpr ?_
  rw [List.cons_lt_cons_iff]
  constructor
  · rintro (h | ⟨_, h⟩)
    · exact h
    · exact absurd h (List.not_lt_nil _)
  · exact Or.inl
theorem lt_none (b : Nat) : ltS (tx []) (tx [b]) = true := by
  unfold ltS
  rw [tx_l, tx_l]
  exact decide_eq_true (List.nil_lt_cons _ _)
theorem tyf : (Ty.str == Ty.str) = true ∧ (Ty.str == Ty.int) = false ∧ (Ty.str == Ty.bool) = false ∧ (Ty.str == Ty.tuple) = false ∧ (Ty.str == Ty.list) = false ∧ (Ty.int == Ty.str) = false ∧ (Ty.int == Ty.int) = true ∧ (Ty.int == Ty.bool) = false ∧ (Ty.int == Ty.tuple) = false ∧ (Ty.int == Ty.list) = false ∧ (Ty.bool == Ty.str) = false ∧ (Ty.bool == Ty.int) = false ∧ (Ty.bool == Ty.bool) = true ∧ (Ty.bool == Ty.tuple) = false ∧ (Ty.bool == Ty.list) = false ∧ (Ty.tuple == Ty.str) = false ∧ (Ty.tuple == Ty.int) = false ∧ (Ty.tuple == Ty.bool) = false ∧ (Ty.tuple == Ty.tuple) = true ∧ (Ty.tuple == Ty.list) = false ∧ (Ty.list == Ty.str) = false ∧ (Ty.list == Ty.int) = false ∧ (Ty.list == Ty.bool) = false ∧ (Ty.list == Ty.tuple) = false ∧ (Ty.list == Ty.list) = true := by decide
theorem lim_nat {n : Nat} (h : n ≤ 1000000) : lim62 (n : Int) :=
  ⟨Int.le_trans (by decide +kernel : -(2 ^ 62) ≤ (0 : Int)) (Int.natCast_nonneg n), Int.lt_of_le_of_lt (Int.ofNat_le.mpr h) (by decide +kernel : ((1000000 : Nat) : Int) < 2 ^ 62)⟩
theorem it_rng1 {Γ : G} {a : E} {ρ : Rho} {μ μ' : Mu} {i : Int} {n : Nat} (h : evalE Γ a ρ μ = .ok (.int i) μ') (hi : i = n) (hn : n ≤ 1000000) : evalIt Γ (.rng1 a) ρ μ = .ok (rngD 0 n, none) μ' := by
  subst hi
  rw [evalIt, h, bind_ok]
  show needs (lim62 (n : Int)) _ = _
  rw [needs_pos (lim_nat hn)]
  rfl
theorem it_rng2 {Γ : G} {a b : E} {ρ : Rho} {μ μ1 μ2 : Mu} {i j : Int} {n m : Nat} (h : evalE Γ a ρ μ = .ok (.int i) μ1) (h2 : evalE Γ b ρ μ1 = .ok (.int j) μ2) (hi : i = n) (hj : j = (n + m : Nat)) (hn : n + m ≤ 1000000) : evalIt Γ (.rng2 a b) ρ μ = .ok (rngD i m, none) μ2 := by
  subst hi hj
  rw [evalIt, h, bind_ok, h2, bind_ok]
  show needs (lim62 (n : Int) ∧ lim62 ((n + m : Nat) : Int)) _ = _
  rw [needs_pos ⟨lim_nat (by omega), lim_nat hn⟩]
  have : (((n + m : Nat) : Int) - (n : Int)).toNat = m := by omega
  rw [this]
theorem for_run {Γ : G} {tg : Tg} {it : IT} {b : B} {ρ : Rho} {μ μ' : Mu} {ds : List D} {o : Out} (h : evalIt Γ it ρ μ = .ok (ds, none) μ')
    (h2 : forLoop (fun d ρ μ => match assignT tg d ρ with
      | some ρ' => runB Γ b ρ' μ
      | none => .stuck) (chkOf none) ds ρ μ' = o) : runS Γ (.for_ tg it b) ρ μ = o := by
  rw [runS, h, then_ok]
  exact h2
/-- one round of a loop -/
def fbody (Γ : G) (tg : Tg) (b : B) (d : D) (ρ : Rho) (μ : Mu) : Out := match assignT tg d ρ with
  | some ρ' => runB Γ b ρ' μ
  | none => .stuck
theorem for_run' {Γ : G} {tg : Tg} {it : IT} {b : B} {ρ : Rho} {μ μ' : Mu} {ds : List D} {o : Out} (h : evalIt Γ it ρ μ = .ok (ds, none) μ') (h2 : forLoop (fbody Γ tg b) (chkOf none) ds ρ μ' = o) : runS Γ (.for_ tg it b) ρ μ = o := for_run h h2
theorem fbody_nm {Γ : G} {i : Nat} {b : B} {d : D} {ρ : Rho} {μ : Mu} : fbody Γ (.nm i) b d ρ μ = runB Γ b (ρ.set i (some d)) μ := rfl
/-- one item of a comprehension -/
def cbody (Γ : G) (own : List Nat) (tg : Tg) (c : T) (e : E) (ρ : Rho) (d : D) (μ : Mu) : Res (Option D) := match assignT tg d (wipeR ρ own) with
  | none => .stuck
  | some ρ' => (evalT Γ c ρ' μ).bind fun k μ => if k then (evalE Γ e ρ' μ).bind fun y μ => .ok (some y) μ else .ok none μ
theorem comp_run {Γ : G} {own : List Nat} {tg : Tg} {it : IT} {c : T} {e : E} {ρ : Rho} {μ μ1 μ2 : Mu} {ds l : List D} (h : evalIt Γ it ρ μ = .ok (ds, none) μ1) (h2 : compLoop (cbody Γ own tg c e ρ) (chkOf none) [] ds μ1 = .ok l μ2) :
    evalE Γ (.comp own tg it c e) ρ μ = .ok (.lst l) μ2 := by
  rw [evalE, h, bind_ok]
  exact congrArg (fun r : Res (List D) => r.bind fun (l : List D) (μ : Mu) => Res.ok (D.lst l) μ) h2
theorem cbody_nm {Γ : G} {own : List Nat} {i : Nat} {e : E} {ρ : Rho} {d y : D} {μ μ' : Mu} (h : evalE Γ e ((wipeR ρ own).set i (some d)) μ = .ok y μ') : cbody Γ own (.nm i) .yes e ρ d μ = .ok (some y) μ' := by
  unfold cbody
  simp only [assignT, evalT, bind_ok, if_true, h]
end PyI
/-! the defs of sensekept_k30_plain_there_and_back; printed by gen.py -/
namespace PyI.K30
open PySem L2
def top (i : Nat) : Stmt := PySem.Challenge.pw_sensekept_k30_plain_there_and_back.main.body.getD i (.Pass ⟨0, 0, 0, 0⟩)
def tb : Tb := ⟨[("show_plain", 1), ("show_quoted", 1), ("read_plain", 1), ("read_value", 4), ("read_members", 4), ("read_number", 2), ("read_quoted", 3), ("can_be_quoted", 1), ("unescaped", 1), ("wrong_place", 2), ("_law_cell", 2), ("_law_digits", 3), ("_law_draw", 2), ("_law_same", 2), ("_law_plain", 1), ("_law_value", 2), ("law", 1)], ["MOST_DIGITS", "MOST_DEEP"], ["WORDS"]⟩
def con : Nat → Option D
  | 0 => some (.int 20)
  | 1 => some (.int 60)
  | _ => none
def dic : Nat → List (Str × D)
  | 0 => [("T", (.bl true)), ("F", (.bl false)), ("N", .non)]
  | _ => []
def b_show_plain : B := (.cons (.ifs (.val (.isi (.var 0) .str)) (.cons (.ret (.call 1 (.cons (.var 0) .nil)))
    .nil) .nil)
    (.cons (.ifs (.val (.isi (.var 0) .tuple)) (.cons (.ret (.bin .add (.bin .add (.cst (.str "(")) (.met .join (.cst (.str " ")) (.cons (.comp [1] (.nm 1) (.seq (.var 0)) .yes (.call 0 (.cons (.var 1) .nil))) .nil))) (.cst (.str ")"))))
    .nil) .nil)
    (.cons (.ifs (.val (.cmp .is_ (.var 0) (.cst .non))) (.cons (.ret (.cst (.str "N")))
    .nil) .nil)
    (.cons (.ifs (.val (.cmp .is_ (.var 0) (.cst (.bl true)))) (.cons (.ret (.cst (.str "T")))
    .nil) .nil)
    (.cons (.ifs (.val (.cmp .is_ (.var 0) (.cst (.bl false)))) (.cons (.ret (.cst (.str "F")))
    .nil) .nil)
    (.cons (.ret (.bif .str (.cons (.var 0) .nil)))
    .nil))))))
def f_show_plain : FnD := ⟨"show_plain", ["value"], ["value", "member"], top 7, [], false, b_show_plain⟩
theorem r_show_plain : resB 80 ⟨⟨f_show_plain.N, tb⟩, defScope f_show_plain.st, locOf (defScope f_show_plain.st), f_show_plain.muts, f_show_plain.τ⟩ (defBody f_show_plain.st) = some b_show_plain := by kernel_rfl
theorem o_show_plain : f_show_plain.Ok tb := ⟨r_show_plain, ⟨rfl, rfl, rfl, by decide +kernel, rfl, by decide +kernel, by decide +kernel⟩, fun h => nomatch h⟩
def b_show_quoted : B := (.cons (.setR 1 (.repl (.repl (.repl (.base (.var 0)) "\\" "\\\\") "\"" "\\\"") "\n" "\\n"))
    (.cons (.ret (.bin .add (.bin .add (.cst (.str "\"")) (.var 1)) (.cst (.str "\""))))
    .nil))
def f_show_quoted : FnD := ⟨"show_quoted", ["text"], ["text", "inner"], top 8, [], true, b_show_quoted⟩
theorem r_show_quoted : resB 80 ⟨⟨f_show_quoted.N, tb⟩, defScope f_show_quoted.st, locOf (defScope f_show_quoted.st), f_show_quoted.muts, f_show_quoted.τ⟩ (defBody f_show_quoted.st) = some b_show_quoted := by kernel_rfl
theorem o_show_quoted : f_show_quoted.Ok tb := ⟨r_show_quoted, ⟨rfl, rfl, rfl, by decide +kernel, rfl, by decide +kernel, by decide +kernel⟩, fun _ => ⟨by decide +kernel, by decide⟩⟩
def b_read_plain : B := (.cons (.setR 1 (.repl (.repl (.base (.var 0)) "\\\\" "..") "\\\"" ".."))
    (.cons (.set (.tp [2, 3]) (.call 3 (.cons (.var 0) (.cons (.var 1) (.cons (.cst (.int 0)) (.cons (.cst (.int 0)) .nil))))))
    (.cons (.ifs (.val (.cmp .lt (.var 3) (.bif .len (.cons (.var 0) .nil)))) (.cons .bad
    .nil) .nil)
    (.cons (.ret (.var 2))
    .nil))))
def f_read_plain : FnD := ⟨"read_plain", ["text"], ["text", "masked", "value", "at"], top 9, [], true, b_read_plain⟩
theorem r_read_plain : resB 80 ⟨⟨f_read_plain.N, tb⟩, defScope f_read_plain.st, locOf (defScope f_read_plain.st), f_read_plain.muts, f_read_plain.τ⟩ (defBody f_read_plain.st) = some b_read_plain := by kernel_rfl
theorem o_read_plain : f_read_plain.Ok tb := ⟨r_read_plain, ⟨rfl, rfl, rfl, by decide +kernel, rfl, by decide +kernel, by decide +kernel⟩, fun _ => ⟨by decide +kernel, by decide⟩⟩
def b_read_value : B := (.cons (.set (.nm 4) (.slc (.var 0) (.some (.var 2)) (.some (.bin .add (.var 2) (.cst (.int 1))))))
    (.cons (.ifs (.val (.cmp .eq (.var 4) (.cst (.str "\"")))) (.cons (.ret (.call 6 (.cons (.var 0) (.cons (.var 1) (.cons (.bin .add (.var 2) (.cst (.int 1))) .nil)))))
    .nil) .nil)
    (.cons (.ifs (.val (.cmp .eq (.var 4) (.cst (.str "(")))) (.cons (.ret (.call 4 (.cons (.var 0) (.cons (.var 1) (.cons (.var 2) (.cons (.var 3) .nil))))))
    .nil) .nil)
    (.cons (.ifs (.val (.gin false 0 (.var 4))) (.cons (.ret (.tup (.cons (.gdict 0 (.var 4)) (.cons (.bin .add (.var 2) (.cst (.int 1))) .nil))))
    .nil) .nil)
    (.cons (.ret (.call 5 (.cons (.var 0) (.cons (.var 2) .nil))))
    .nil)))))
def f_read_value : FnD := ⟨"read_value", ["text", "masked", "at", "depth"], ["text", "masked", "at", "depth", "sign"], top 10, [], false, b_read_value⟩
theorem r_read_value : resB 80 ⟨⟨f_read_value.N, tb⟩, defScope f_read_value.st, locOf (defScope f_read_value.st), f_read_value.muts, f_read_value.τ⟩ (defBody f_read_value.st) = some b_read_value := by kernel_rfl
theorem o_read_value : f_read_value.Ok tb := ⟨r_read_value, ⟨rfl, rfl, rfl, by decide +kernel, rfl, by decide +kernel, by decide +kernel⟩, fun h => nomatch h⟩
def b_read_members : B := (.cons (.ifs (.val (.cmp .eq (.var 3) (.glob 1))) (.cons .bad
    .nil) .nil)
    (.cons (.aug 2 .add (.cst (.int 1)))
    (.cons (.ifs (.val (.cmp .eq (.slc (.var 0) (.some (.var 2)) (.some (.bin .add (.var 2) (.cst (.int 1))))) (.cst (.str ")")))) (.cons (.ret (.tup (.cons (.tup .nil) (.cons (.bin .add (.var 2) (.cst (.int 1))) .nil))))
    .nil) .nil)
    (.cons (.new 4 (.lst .nil))
    (.cons (.whl (.val (.cst (.bl true))) (.cons (.set (.tp [5, 2]) (.call 3 (.cons (.var 0) (.cons (.var 1) (.cons (.var 2) (.cons (.bin .add (.var 3) (.cst (.int 1))) .nil))))))
    (.cons (.expr (.met .append (.var 4) (.cons (.var 5) .nil)))
    (.cons (.set (.nm 6) (.slc (.var 0) (.some (.var 2)) (.some (.bin .add (.var 2) (.cst (.int 1))))))
    (.cons (.ifs (.val (.cmp .eq (.var 6) (.cst (.str ")")))) (.cons (.ret (.tup (.cons (.bif .tuple (.cons (.var 4) .nil)) (.cons (.bin .add (.var 2) (.cst (.int 1))) .nil))))
    .nil) .nil)
    (.cons (.ifs (.val (.cmp .ne (.var 6) (.cst (.str " ")))) (.cons .bad
    .nil) .nil)
    (.cons (.aug 2 .add (.cst (.int 1)))
    .nil)))))))
    .nil)))))
def f_read_members : FnD := ⟨"read_members", ["text", "masked", "at", "depth"], ["text", "masked", "at", "depth", "members", "value", "sign"], top 11, ["members"], false, b_read_members⟩
theorem r_read_members : resB 80 ⟨⟨f_read_members.N, tb⟩, defScope f_read_members.st, locOf (defScope f_read_members.st), f_read_members.muts, f_read_members.τ⟩ (defBody f_read_members.st) = some b_read_members := by kernel_rfl
theorem o_read_members : f_read_members.Ok tb := ⟨r_read_members, ⟨rfl, rfl, rfl, by decide +kernel, rfl, by decide +kernel, by decide +kernel⟩, fun h => nomatch h⟩
def b_read_number : B := (.cons (.set (.nm 2) (.ite (.val (.cmp .eq (.slc (.var 0) (.some (.var 1)) (.some (.bin .add (.var 1) (.cst (.int 1))))) (.cst (.str "-")))) (.bin .add (.var 1) (.cst (.int 1))) (.var 1)))
    (.cons (.set (.nm 3) (.slc (.var 0) (.some (.var 2)) (.some (.bin .add (.var 2) (.cst (.int 1))))))
    (.cons (.ifs (.and (.val (.cmp .eq (.var 3) (.cst (.str "0")))) (.val (.cmp .eq (.var 2) (.var 1)))) (.cons (.ret (.tup (.cons (.cst (.int 0)) (.cons (.bin .add (.var 1) (.cst (.int 1))) .nil))))
    .nil) .nil)
    (.cons (.ifs (.not (.val (.chn .le .le (.cst (.str "1")) (.var 3) (.cst (.str "9"))))) (.cons .bad
    .nil) .nil)
    (.cons (.set (.nm 4) (.bin .add (.var 2) (.cst (.int 1))))
    (.cons (.whl (.and (.val (.cmp .lt (.var 4) (.bin .add (.var 2) (.glob 0)))) (.val (.chn .le .le (.cst (.str "0")) (.slc (.var 0) (.some (.var 4)) (.some (.bin .add (.var 4) (.cst (.int 1))))) (.cst (.str "9"))))) (.cons (.aug 4 .add (.cst (.int 1)))
    .nil))
    (.cons (.ret (.tup (.cons (.bif .int (.cons (.slc (.var 0) (.some (.var 1)) (.some (.var 4))) .nil)) (.cons (.var 4) .nil))))
    .nil)))))))
def f_read_number : FnD := ⟨"read_number", ["text", "at"], ["text", "at", "start", "first", "end"], top 12, [], false, b_read_number⟩
theorem r_read_number : resB 80 ⟨⟨f_read_number.N, tb⟩, defScope f_read_number.st, locOf (defScope f_read_number.st), f_read_number.muts, f_read_number.τ⟩ (defBody f_read_number.st) = some b_read_number := by kernel_rfl
theorem o_read_number : f_read_number.Ok tb := ⟨r_read_number, ⟨rfl, rfl, rfl, by decide +kernel, rfl, by decide +kernel, by decide +kernel⟩, fun h => nomatch h⟩
def b_read_quoted : B := (.cons (.set (.nm 3) (.met .find (.var 1) (.cons (.cst (.str "\"")) (.cons (.var 2) .nil))))
    (.cons (.ifs (.val (.cmp .lt (.var 3) (.cst (.int 0)))) (.cons .bad
    .nil) .nil)
    (.cons (.set (.nm 4) (.slc (.var 0) (.some (.var 2)) (.some (.var 3))))
    (.cons (.ifs (.not (.val (.call 7 (.cons (.var 4) .nil)))) (.cons .bad
    .nil) .nil)
    (.cons (.ifs (.val (.cmp .notin (.cst (.str "\\")) (.var 4))) (.cons (.ret (.tup (.cons (.var 4) (.cons (.bin .add (.var 3) (.cst (.int 1))) .nil))))
    .nil) .nil)
    (.cons (.set (.nm 5) (.call 8 (.cons (.var 4) .nil)))
    (.cons (.ifs (.val (.cmp .is_ (.var 5) (.cst .non))) (.cons .bad
    .nil) .nil)
    (.cons (.ret (.tup (.cons (.var 5) (.cons (.bin .add (.var 3) (.cst (.int 1))) .nil))))
    .nil))))))))
def f_read_quoted : FnD := ⟨"read_quoted", ["text", "masked", "at"], ["text", "masked", "at", "end", "inner", "told"], top 13, [], false, b_read_quoted⟩
theorem r_read_quoted : resB 80 ⟨⟨f_read_quoted.N, tb⟩, defScope f_read_quoted.st, locOf (defScope f_read_quoted.st), f_read_quoted.muts, f_read_quoted.τ⟩ (defBody f_read_quoted.st) = some b_read_quoted := by kernel_rfl
theorem o_read_quoted : f_read_quoted.Ok tb := ⟨r_read_quoted, ⟨rfl, rfl, rfl, by decide +kernel, rfl, by decide +kernel, by decide +kernel⟩, fun h => nomatch h⟩
def b_can_be_quoted : B := (.cons (.ret (.and (.met .isascii (.var 0) .nil) (.and (.met .isprintable (.var 0) .nil) (.cmp .eq (.bif .len (.cons (.tr37 (.var 0)) .nil)) (.bif .len (.cons (.var 0) .nil))))))
    .nil)
def f_can_be_quoted : FnD := ⟨"can_be_quoted", ["text"], ["text"], top 14, [], false, b_can_be_quoted⟩
theorem r_can_be_quoted : resB 80 ⟨⟨f_can_be_quoted.N, tb⟩, defScope f_can_be_quoted.st, locOf (defScope f_can_be_quoted.st), f_can_be_quoted.muts, f_can_be_quoted.τ⟩ (defBody f_can_be_quoted.st) = some b_can_be_quoted := by kernel_rfl
theorem o_can_be_quoted : f_can_be_quoted.Ok tb := ⟨r_can_be_quoted, ⟨rfl, rfl, rfl, by decide +kernel, rfl, by decide +kernel, by decide +kernel⟩, fun h => nomatch h⟩
def b_unescaped : B := (.cons (.new 1 (.lst .nil))
    (.cons (.for_ (.nm 2) (.seq (.met .split (.var 0) (.cons (.cst (.str "\\\\")) .nil))) (.cons (.setR 3 (.repl (.repl (.base (.var 2)) "\\\"" "\"") "\\n" "\n"))
    (.cons (.ifs (.val (.cmp .in_ (.cst (.str "\\")) (.var 3))) (.cons (.ret (.cst .non))
    .nil) .nil)
    (.cons (.expr (.met .append (.var 1) (.cons (.var 3) .nil)))
    .nil))))
    (.cons (.ret (.met .join (.cst (.str "\\")) (.cons (.var 1) .nil)))
    .nil)))
def f_unescaped : FnD := ⟨"unescaped", ["inner"], ["inner", "pieces", "piece", "told"], top 15, ["pieces"], true, b_unescaped⟩
theorem r_unescaped : resB 80 ⟨⟨f_unescaped.N, tb⟩, defScope f_unescaped.st, locOf (defScope f_unescaped.st), f_unescaped.muts, f_unescaped.τ⟩ (defBody f_unescaped.st) = some b_unescaped := by kernel_rfl
theorem o_unescaped : f_unescaped.Ok tb := ⟨r_unescaped, ⟨rfl, rfl, rfl, by decide +kernel, rfl, by decide +kernel, by decide +kernel⟩, fun _ => ⟨by decide +kernel, by decide⟩⟩
def b_wrong_place : B := (.cons (.whl (.val (.cmp .lt (.var 1) (.bif .len (.cons (.var 0) .nil)))) (.cons (.ifs (.val (.cmp .eq (.idx (.var 0) (.var 1)) (.cst (.str "\\")))) (.cons (.ifs (.val (.cmp .notin (.slc (.var 0) (.some (.bin .add (.var 1) (.cst (.int 1)))) (.some (.bin .add (.var 1) (.cst (.int 2))))) (.tup (.cons (.cst (.str "\\")) (.cons (.cst (.str "\"")) (.cons (.cst (.str "n")) .nil)))))) (.cons (.ret (.bin .add (.var 1) (.cst (.int 1))))
    .nil) .nil)
    (.cons (.aug 1 .add (.cst (.int 2)))
    .nil)) (.cons (.ifs (.val (.call 7 (.cons (.idx (.var 0) (.var 1)) .nil))) (.cons (.aug 1 .add (.cst (.int 1)))
    .nil) (.cons (.ret (.var 1))
    .nil))
    .nil))
    .nil))
    (.cons (.ret (.var 1))
    .nil))
def f_wrong_place : FnD := ⟨"wrong_place", ["text", "at"], ["text", "at"], top 16, [], false, b_wrong_place⟩
theorem r_wrong_place : resB 80 ⟨⟨f_wrong_place.N, tb⟩, defScope f_wrong_place.st, locOf (defScope f_wrong_place.st), f_wrong_place.muts, f_wrong_place.τ⟩ (defBody f_wrong_place.st) = some b_wrong_place := by kernel_rfl
theorem o_wrong_place : f_wrong_place.Ok tb := ⟨r_wrong_place, ⟨rfl, rfl, rfl, by decide +kernel, rfl, by decide +kernel, by decide +kernel⟩, fun h => nomatch h⟩
def b_law_cell : B := (.cons (.ifs (.val (.cmp .lt (.var 1) (.bif .len (.cons (.var 0) .nil)))) (.cons (.ret (.idx (.var 0) (.var 1)))
    .nil) .nil)
    (.cons (.ret (.cst (.int 0)))
    .nil))
def f_law_cell : FnD := ⟨"_law_cell", ["script", "k"], ["script", "k"], top 18, [], false, b_law_cell⟩
theorem r_law_cell : resB 80 ⟨⟨f_law_cell.N, tb⟩, defScope f_law_cell.st, locOf (defScope f_law_cell.st), f_law_cell.muts, f_law_cell.τ⟩ (defBody f_law_cell.st) = some b_law_cell := by kernel_rfl
theorem o_law_cell : f_law_cell.Ok tb := ⟨r_law_cell, ⟨rfl, rfl, rfl, by decide +kernel, rfl, by decide +kernel, by decide +kernel⟩, fun h => nomatch h⟩
def b_law_digits : B := (.cons (.new 3 (.lst .nil))
    (.cons (.for_ (.nm 4) (.rng2 (.var 1) (.var 2)) (.cons (.ifs (.val (.cmp .gt (.bif .len (.cons (.var 3) .nil)) (.cst (.int 1500)))) (.cons .brk
    .nil) .nil)
    (.cons (.set (.nm 5) (.call 10 (.cons (.var 0) (.cons (.var 4) .nil))))
    (.cons (.ifs (.val (.cmp .lt (.var 5) (.cst (.int 0)))) (.cons (.set (.nm 5) (.bin .sub (.cst (.int 1)) (.bin .mul (.cst (.int 2)) (.var 5))))
    .nil) .nil)
    (.cons (.ifs (.val (.cmp .ge (.var 5) (.bin .pow (.cst (.int 10)) (.cst (.int 18))))) (.cons (.for_ (.nm 6) (.rng1 (.cst (.int 60))) (.cons (.ifs (.val (.cmp .gt (.var 5) (.cst (.int 0)))) (.cons (.expr (.met .append (.var 3) (.cons (.bin .mod (.bif .int (.cons (.var 5) .nil)) (.cst (.int 1000))) .nil)))
    (.cons (.set (.nm 5) (.bin .fdiv (.var 5) (.cst (.int 1000))))
    .nil)) .nil)
    .nil))
    .nil) (.cons (.set (.nm 7) (.bin .mod (.bif .int (.cons (.bin .add (.bin .add (.bin .mul (.var 5) (.cst (.int 48271))) (.bin .mul (.var 4) (.cst (.int 69621)))) (.cst (.int 11))) .nil)) (.cst (.int 2147483647))))
    (.cons (.for_ (.nm 6) (.rng1 (.cst (.int 12))) (.cons (.set (.nm 7) (.bin .mod (.bif .int (.cons (.bin .add (.bin .add (.bin .mul (.var 7) (.cst (.int 16807))) (.bin .mul (.cst (.int 7)) (.var 6))) (.cst (.int 1))) .nil)) (.cst (.int 2147483647))))
    (.cons (.expr (.met .append (.var 3) (.cons (.bin .mod (.bif .int (.cons (.bin .fdiv (.var 7) (.cst (.int 997))) .nil)) (.cst (.int 1000))) .nil)))
    .nil)))
    .nil)))
    .nil)))))
    (.cons (.ret (.var 3))
    .nil)))
def f_law_digits : FnD := ⟨"_law_digits", ["script", "first", "last"], ["script", "first", "last", "digits", "k", "cell", "turn", "seed"], top 19, ["digits"], false, b_law_digits⟩
theorem r_law_digits : resB 80 ⟨⟨f_law_digits.N, tb⟩, defScope f_law_digits.st, locOf (defScope f_law_digits.st), f_law_digits.muts, f_law_digits.τ⟩ (defBody f_law_digits.st) = some b_law_digits := by kernel_rfl
theorem o_law_digits : f_law_digits.Ok tb := ⟨r_law_digits, ⟨rfl, rfl, rfl, by decide +kernel, rfl, by decide +kernel, by decide +kernel⟩, fun h => nomatch h⟩
def b_law_draw : B := (.cons (.set (.nm 2) (.idx (.var 0) (.cst (.int 1))))
    (.cons (.setIx (.var 0) (.cst (.int 1)) (.bin .add (.var 2) (.cst (.int 1))))
    (.cons (.ifs (.val (.cmp .lt (.var 2) (.bif .len (.cons (.idx (.var 0) (.cst (.int 0))) .nil)))) (.cons (.ret (.bin .mod (.bif .int (.cons (.idx (.idx (.var 0) (.cst (.int 0))) (.var 2)) .nil)) (.var 1)))
    .nil) .nil)
    (.cons (.ret (.bin .mod (.bif .int (.cons (.bin .mul (.var 2) (.cst (.int 7))) .nil)) (.var 1)))
    .nil))))
def f_law_draw : FnD := ⟨"_law_draw", ["box", "many"], ["box", "many", "at"], top 20, ["box"], false, b_law_draw⟩
theorem r_law_draw : resB 80 ⟨⟨f_law_draw.N, tb⟩, defScope f_law_draw.st, locOf (defScope f_law_draw.st), f_law_draw.muts, f_law_draw.τ⟩ (defBody f_law_draw.st) = some b_law_draw := by kernel_rfl
theorem o_law_draw : f_law_draw.Ok tb := ⟨r_law_draw, ⟨rfl, rfl, rfl, by decide +kernel, rfl, by decide +kernel, by decide +kernel⟩, fun h => nomatch h⟩
def b_law_same : B := (.cons (.ifs (.val (.isi (.var 1) .tuple)) (.cons (.ifs (.or (.not (.val (.isi (.var 0) .tuple))) (.val (.cmp .ne (.bif .len (.cons (.var 0) .nil)) (.bif .len (.cons (.var 1) .nil))))) (.cons (.ret (.cst (.bl false)))
    .nil) .nil)
    (.cons (.for_ (.nm 2) (.rng1 (.bif .len (.cons (.var 1) .nil))) (.cons (.ifs (.not (.val (.call 13 (.cons (.idx (.var 0) (.var 2)) (.cons (.idx (.var 1) (.var 2)) .nil))))) (.cons (.ret (.cst (.bl false)))
    .nil) .nil)
    .nil))
    (.cons (.ret (.cst (.bl true)))
    .nil))) .nil)
    (.cons (.ifs (.val (.cmp .is_ (.var 1) (.cst .non))) (.cons (.ret (.cmp .is_ (.var 0) (.cst .non)))
    .nil) .nil)
    (.cons (.ifs (.val (.cmp .is_ (.var 1) (.cst (.bl true)))) (.cons (.ret (.cmp .is_ (.var 0) (.cst (.bl true))))
    .nil) .nil)
    (.cons (.ifs (.val (.cmp .is_ (.var 1) (.cst (.bl false)))) (.cons (.ret (.cmp .is_ (.var 0) (.cst (.bl false))))
    .nil) .nil)
    (.cons (.ifs (.val (.isi (.var 1) .int)) (.cons (.ret (.and (.isi (.var 0) .int) (.and (.notv (.val (.isi (.var 0) .bool))) (.cmp .eq (.var 0) (.var 1)))))
    .nil) .nil)
    (.cons (.ret (.and (.isi (.var 0) .str) (.cmp .eq (.var 0) (.var 1))))
    .nil))))))
def f_law_same : FnD := ⟨"_law_same", ["actual", "due"], ["actual", "due", "k"], top 21, [], false, b_law_same⟩
theorem r_law_same : resB 80 ⟨⟨f_law_same.N, tb⟩, defScope f_law_same.st, locOf (defScope f_law_same.st), f_law_same.muts, f_law_same.τ⟩ (defBody f_law_same.st) = some b_law_same := by kernel_rfl
theorem o_law_same : f_law_same.Ok tb := ⟨r_law_same, ⟨rfl, rfl, rfl, by decide +kernel, rfl, by decide +kernel, by decide +kernel⟩, fun h => nomatch h⟩
def b_law_plain : B := (.cons (.ifs (.val (.cmp .is_ (.var 0) (.cst .non))) (.cons (.ret (.cst (.str "N")))
    .nil) .nil)
    (.cons (.ifs (.val (.cmp .is_ (.var 0) (.cst (.bl true)))) (.cons (.ret (.cst (.str "T")))
    .nil) .nil)
    (.cons (.ifs (.val (.cmp .is_ (.var 0) (.cst (.bl false)))) (.cons (.ret (.cst (.str "F")))
    .nil) .nil)
    (.cons (.ifs (.val (.isi (.var 0) .int)) (.cons (.ret (.bif .str (.cons (.var 0) .nil)))
    .nil) .nil)
    (.cons (.ifs (.val (.isi (.var 0) .tuple)) (.cons (.ret (.bin .add (.bin .add (.cst (.str "(")) (.met .join (.cst (.str " ")) (.cons (.comp [1] (.nm 1) (.seq (.var 0)) .yes (.call 14 (.cons (.var 1) .nil))) .nil))) (.cst (.str ")"))))
    .nil) .nil)
    (.cons (.retR "\"" (.repl (.repl (.repl (.base (.var 0)) "\\" "\\\\") "\"" "\\\"") "\n" "\\n") "\"")
    .nil))))))
def f_law_plain : FnD := ⟨"_law_plain", ["value"], ["value", "one"], top 22, [], true, b_law_plain⟩
theorem r_law_plain : resB 80 ⟨⟨f_law_plain.N, tb⟩, defScope f_law_plain.st, locOf (defScope f_law_plain.st), f_law_plain.muts, f_law_plain.τ⟩ (defBody f_law_plain.st) = some b_law_plain := by kernel_rfl
theorem o_law_plain : f_law_plain.Ok tb := ⟨r_law_plain, ⟨rfl, rfl, rfl, by decide +kernel, rfl, by decide +kernel, by decide +kernel⟩, fun _ => ⟨by decide +kernel, by decide⟩⟩
def b_law_value : B := (.cons (.set (.nm 2) (.call 12 (.cons (.var 0) (.cons (.cst (.int 9)) .nil))))
    (.cons (.ifs (.and (.val (.cmp .lt (.var 2) (.cst (.int 3)))) (.val (.cmp .gt (.var 1) (.cst (.int 0))))) (.cons (.ret (.bif .tuple (.cons (.comp [5] (.nm 5) (.rng1 (.call 12 (.cons (.var 0) (.cons (.cst (.int 4)) .nil)))) .yes (.call 15 (.cons (.var 0) (.cons (.bin .sub (.var 1) (.cst (.int 1))) .nil)))) .nil)))
    .nil) .nil)
    (.cons (.ifs (.val (.cmp .eq (.var 2) (.cst (.int 3)))) (.cons (.ret (.idx (.lst (.cons (.cst .non) (.cons (.cst (.bl true)) (.cons (.cst (.bl false)) .nil)))) (.call 12 (.cons (.var 0) (.cons (.cst (.int 3)) .nil)))))
    .nil) .nil)
    (.cons (.ifs (.val (.cmp .eq (.var 2) (.cst (.int 4)))) (.cons (.set (.nm 3) (.bin .sub (.bin .add (.bin .mul (.call 12 (.cons (.var 0) (.cons (.cst (.int 900)) .nil))) (.bin .pow (.cst (.int 10)) (.cst (.int 16)))) (.call 12 (.cons (.var 0) (.cons (.cst (.int 900)) .nil)))) (.cst (.int 450))))
    (.cons (.ret (.idx (.lst (.cons (.var 3) (.cons (.bin .sub (.cst (.int 0)) (.var 3)) (.cons (.bin .add (.bin .pow (.cst (.int 10)) (.cst (.int 19))) (.var 3)) (.cons (.cst (.int 0)) .nil))))) (.call 12 (.cons (.var 0) (.cons (.cst (.int 4)) .nil)))))
    .nil)) .nil)
    (.cons (.ifs (.val (.cmp .eq (.var 2) (.cst (.int 5)))) (.cons (.ret (.bin .sub (.call 12 (.cons (.var 0) (.cons (.cst (.int 30)) .nil))) (.cst (.int 15))))
    .nil) .nil)
    (.cons (.set (.nm 4) (.cst (.str " !\"#$&'()*+,-./0189:;<=>?@AZ[\\]^_`az{|}~\nnTFN")))
    (.cons (.ret (.met .join (.cst (.str "")) (.cons (.comp [5] (.nm 5) (.rng1 (.call 12 (.cons (.var 0) (.cons (.cst (.int 9)) .nil)))) .yes (.idx (.var 4) (.bin .mod (.bif .int (.cons (.call 12 (.cons (.var 0) (.cons (.cst (.int 900)) .nil))) .nil)) (.bif .len (.cons (.var 4) .nil))))) .nil)))
    .nil)))))))
def f_law_value : FnD := ⟨"_law_value", ["box", "deep"], ["box", "deep", "kind", "number", "signs", "k"], top 23, [], false, b_law_value⟩
theorem r_law_value : resB 80 ⟨⟨f_law_value.N, tb⟩, defScope f_law_value.st, locOf (defScope f_law_value.st), f_law_value.muts, f_law_value.τ⟩ (defBody f_law_value.st) = some b_law_value := by kernel_rfl
theorem o_law_value : f_law_value.Ok tb := ⟨r_law_value, ⟨rfl, rfl, rfl, by decide +kernel, rfl, by decide +kernel, by decide +kernel⟩, fun h => nomatch h⟩
def b_law : B := (.cons (.new 1 (.lst (.cons (.call 11 (.cons (.var 0) (.cons (.cst (.int 0)) (.cons (.cst (.int 63)) .nil)))) (.cons (.cst (.int 0)) .nil))))
    (.cons (.for_ (.nm 2) (.rng1 (.cst (.int 6))) (.cons (.set (.nm 3) (.call 15 (.cons (.var 1) (.cons (.cst (.int 4)) .nil))))
    (.cons (.for_ (.nm 4) (.rng1 (.idx (.lst (.cons (.cst (.int 0)) (.cons (.cst (.int 0)) (.cons (.cst (.int 0)) (.cons (.cst (.int 56)) .nil))))) (.call 12 (.cons (.var 1) (.cons (.cst (.int 4)) .nil))))) (.cons (.set (.nm 3) (.tup (.cons (.var 3) .nil)))
    .nil))
    (.cons (.set (.nm 5) (.call 14 (.cons (.var 3) .nil)))
    (.cons (.ifs (.or (.not (.val (.call 13 (.cons (.call 0 (.cons (.var 3) .nil)) (.cons (.var 5) .nil))))) (.not (.val (.call 13 (.cons (.call 2 (.cons (.var 5) .nil)) (.cons (.var 3) .nil)))))) (.cons (.ret (.cst (.bl false)))
    .nil) .nil)
    .nil)))))
    (.cons (.ret (.cst (.bl true)))
    .nil)))
def f_law : FnD := ⟨"law", ["script"], ["script", "box", "turn", "value", "k", "text"], top 24, ["box"], false, b_law⟩
theorem r_law : resB 80 ⟨⟨f_law.N, tb⟩, defScope f_law.st, locOf (defScope f_law.st), f_law.muts, f_law.τ⟩ (defBody f_law.st) = some b_law := by kernel_rfl
theorem o_law : f_law.Ok tb := ⟨r_law, ⟨rfl, rfl, rfl, by decide +kernel, rfl, by decide +kernel, by decide +kernel⟩, fun h => nomatch h⟩
def prg : Prg := ⟨[f_show_plain, f_show_quoted, f_read_plain, f_read_value, f_read_members, f_read_number, f_read_quoted, f_can_be_quoted, f_unescaped, f_wrong_place, f_law_cell, f_law_digits, f_law_draw, f_law_same, f_law_plain, f_law_value, f_law], tb, con, dic, 100000⟩
theorem prg_ok : prg.Ok := ⟨rfl, fun d h => by
  simp only [prg, List.mem_cons, List.not_mem_nil, or_false] at h
  rcases h with rfl | rfl | rfl | rfl | rfl | rfl | rfl | rfl | rfl | rfl | rfl | rfl | rfl | rfl | rfl | rfl | rfl
  · exact o_show_plain
  · exact o_show_quoted
  · exact o_read_plain
  · exact o_read_value
  · exact o_read_members
  · exact o_read_number
  · exact o_read_quoted
  · exact o_can_be_quoted
  · exact o_unescaped
  · exact o_wrong_place
  · exact o_law_cell
  · exact o_law_digits
  · exact o_law_draw
  · exact o_law_same
  · exact o_law_plain
  · exact o_law_value
  · exact o_law⟩
abbrev n_show_plain : Nat := 0
abbrev n_show_quoted : Nat := 1
abbrev n_read_plain : Nat := 2
abbrev n_read_value : Nat := 3
abbrev n_read_members : Nat := 4
abbrev n_read_number : Nat := 5
abbrev n_read_quoted : Nat := 6
abbrev n_can_be_quoted : Nat := 7
abbrev n_unescaped : Nat := 8
abbrev n_wrong_place : Nat := 9
abbrev n_law_cell : Nat := 10
abbrev n_law_digits : Nat := 11
abbrev n_law_draw : Nat := 12
abbrev n_law_same : Nat := 13
abbrev n_law_plain : Nat := 14
abbrev n_law_value : Nat := 15
abbrev n_law : Nat := 16
abbrev cl (k f : Nat) (ds : List D) (μ : Mu) : Res D := callD prg.tab prg.con prg.dic prg.wf k f ds μ
abbrev gg (k : Nat) : G := ⟨callD prg.tab prg.con prg.dic prg.wf k, con, dic, 100000⟩
theorem c_show_plain {k : Nat} {x0 : D} {μ : Mu} : callD prg.tab prg.con prg.dic prg.wf (k + 1) n_show_plain [x0] μ = finO μ.length (runB (gg k) b_show_plain (startR f_show_plain.N.length [x0]) μ) := rfl
theorem c_show_quoted {k : Nat} {x0 : D} {μ : Mu} : callD prg.tab prg.con prg.dic prg.wf (k + 1) n_show_quoted [x0] μ = finO μ.length (runB (gg k) b_show_quoted (startR f_show_quoted.N.length [x0]) μ) := rfl
theorem c_read_plain {k : Nat} {x0 : D} {μ : Mu} : callD prg.tab prg.con prg.dic prg.wf (k + 1) n_read_plain [x0] μ = finO μ.length (runB (gg k) b_read_plain (startR f_read_plain.N.length [x0]) μ) := rfl
theorem c_read_value {k : Nat} {x0 x1 x2 x3 : D} {μ : Mu} : callD prg.tab prg.con prg.dic prg.wf (k + 1) n_read_value [x0, x1, x2, x3] μ = finO μ.length (runB (gg k) b_read_value (startR f_read_value.N.length [x0, x1, x2, x3]) μ) := rfl
theorem c_read_members {k : Nat} {x0 x1 x2 x3 : D} {μ : Mu} : callD prg.tab prg.con prg.dic prg.wf (k + 1) n_read_members [x0, x1, x2, x3] μ = finO μ.length (runB (gg k) b_read_members (startR f_read_members.N.length [x0, x1, x2, x3]) μ) := rfl
theorem c_read_number {k : Nat} {x0 x1 : D} {μ : Mu} : callD prg.tab prg.con prg.dic prg.wf (k + 1) n_read_number [x0, x1] μ = finO μ.length (runB (gg k) b_read_number (startR f_read_number.N.length [x0, x1]) μ) := rfl
theorem c_read_quoted {k : Nat} {x0 x1 x2 : D} {μ : Mu} : callD prg.tab prg.con prg.dic prg.wf (k + 1) n_read_quoted [x0, x1, x2] μ = finO μ.length (runB (gg k) b_read_quoted (startR f_read_quoted.N.length [x0, x1, x2]) μ) := rfl
theorem c_can_be_quoted {k : Nat} {x0 : D} {μ : Mu} : callD prg.tab prg.con prg.dic prg.wf (k + 1) n_can_be_quoted [x0] μ = finO μ.length (runB (gg k) b_can_be_quoted (startR f_can_be_quoted.N.length [x0]) μ) := rfl
theorem c_unescaped {k : Nat} {x0 : D} {μ : Mu} : callD prg.tab prg.con prg.dic prg.wf (k + 1) n_unescaped [x0] μ = finO μ.length (runB (gg k) b_unescaped (startR f_unescaped.N.length [x0]) μ) := rfl
theorem c_wrong_place {k : Nat} {x0 x1 : D} {μ : Mu} : callD prg.tab prg.con prg.dic prg.wf (k + 1) n_wrong_place [x0, x1] μ = finO μ.length (runB (gg k) b_wrong_place (startR f_wrong_place.N.length [x0, x1]) μ) := rfl
theorem c_law_cell {k : Nat} {x0 x1 : D} {μ : Mu} : callD prg.tab prg.con prg.dic prg.wf (k + 1) n_law_cell [x0, x1] μ = finO μ.length (runB (gg k) b_law_cell (startR f_law_cell.N.length [x0, x1]) μ) := rfl
theorem c_law_digits {k : Nat} {x0 x1 x2 : D} {μ : Mu} : callD prg.tab prg.con prg.dic prg.wf (k + 1) n_law_digits [x0, x1, x2] μ = finO μ.length (runB (gg k) b_law_digits (startR f_law_digits.N.length [x0, x1, x2]) μ) := rfl
theorem c_law_draw {k : Nat} {x0 x1 : D} {μ : Mu} : callD prg.tab prg.con prg.dic prg.wf (k + 1) n_law_draw [x0, x1] μ = finO μ.length (runB (gg k) b_law_draw (startR f_law_draw.N.length [x0, x1]) μ) := rfl
theorem c_law_same {k : Nat} {x0 x1 : D} {μ : Mu} : callD prg.tab prg.con prg.dic prg.wf (k + 1) n_law_same [x0, x1] μ = finO μ.length (runB (gg k) b_law_same (startR f_law_same.N.length [x0, x1]) μ) := rfl
theorem c_law_plain {k : Nat} {x0 : D} {μ : Mu} : callD prg.tab prg.con prg.dic prg.wf (k + 1) n_law_plain [x0] μ = finO μ.length (runB (gg k) b_law_plain (startR f_law_plain.N.length [x0]) μ) := rfl
theorem c_law_value {k : Nat} {x0 x1 : D} {μ : Mu} : callD prg.tab prg.con prg.dic prg.wf (k + 1) n_law_value [x0, x1] μ = finO μ.length (runB (gg k) b_law_value (startR f_law_value.N.length [x0, x1]) μ) := rfl
theorem c_law {k : Nat} {x0 : D} {μ : Mu} : callD prg.tab prg.con prg.dic prg.wf (k + 1) n_law [x0] μ = finO μ.length (runB (gg k) b_law (startR f_law.N.length [x0]) μ) := rfl
theorem t_0 : ("(" : Str) = tx [40] := by decide +kernel
theorem t_1 : (" " : Str) = tx [32] := by decide +kernel
theorem t_2 : (")" : Str) = tx [41] := by decide +kernel
theorem t_3 : ("N" : Str) = tx [78] := by decide +kernel
theorem t_4 : ("T" : Str) = tx [84] := by decide +kernel
theorem t_5 : ("F" : Str) = tx [70] := by decide +kernel
theorem t_6 : ("\\" : Str) = tx [92] := by decide +kernel
theorem t_7 : ("\\\\" : Str) = tx [92, 92] := by decide +kernel
theorem t_8 : ("\"" : Str) = tx [34] := by decide +kernel
theorem t_9 : ("\\\"" : Str) = tx [92, 34] := by decide +kernel
theorem t_10 : ("\n" : Str) = tx [10] := by decide +kernel
theorem t_11 : ("\\n" : Str) = tx [92, 110] := by decide +kernel
theorem t_12 : (".." : Str) = tx [46, 46] := by decide +kernel
theorem t_13 : ("-" : Str) = tx [45] := by decide +kernel
theorem t_14 : ("0" : Str) = tx [48] := by decide +kernel
theorem t_15 : ("1" : Str) = tx [49] := by decide +kernel
theorem t_16 : ("9" : Str) = tx [57] := by decide +kernel
theorem t_17 : ("n" : Str) = tx [110] := by decide +kernel
theorem t_18 : (" !\"#$&'()*+,-./0189:;<=>?@AZ[\\]^_`az{|}~\nnTFN" : Str) = tx [32, 33, 34, 35, 36, 38, 39, 40, 41, 42, 43, 44, 45, 46, 47, 48, 49, 56, 57, 58, 59, 60, 61, 62, 63, 64, 65, 90, 91, 92, 93, 94, 95, 96, 97, 122, 123, 124, 125, 126, 10, 110, 84, 70, 78] := by decide +kernel
theorem t_19 : ("" : Str) = tx [] := by decide +kernel
theorem bn_show_plain : ∀ (kV doc pm : Value) (an : Option Addr) (cdv ct : Value) (us : List Value), us.length = (["value"] : List Str).length → bindArgs (PySem.W.fnOf "show_plain" "show_plain" (defArgs (top 7)) (defBody (top 7)) (defScope (top 7)) .none kV doc pm an cdv ct) ⟨us, []⟩ = pure ((["value"] : List Str).zip us) := fun _ _ _ _ _ _ us hl => match us, hl with | [_], _ => rfl
theorem bn_show_quoted : ∀ (kV doc pm : Value) (an : Option Addr) (cdv ct : Value) (us : List Value), us.length = (["text"] : List Str).length → bindArgs (PySem.W.fnOf "show_quoted" "show_quoted" (defArgs (top 8)) (defBody (top 8)) (defScope (top 8)) .none kV doc pm an cdv ct) ⟨us, []⟩ = pure ((["text"] : List Str).zip us) := fun _ _ _ _ _ _ us hl => match us, hl with | [_], _ => rfl
theorem bn_read_plain : ∀ (kV doc pm : Value) (an : Option Addr) (cdv ct : Value) (us : List Value), us.length = (["text"] : List Str).length → bindArgs (PySem.W.fnOf "read_plain" "read_plain" (defArgs (top 9)) (defBody (top 9)) (defScope (top 9)) .none kV doc pm an cdv ct) ⟨us, []⟩ = pure ((["text"] : List Str).zip us) := fun _ _ _ _ _ _ us hl => match us, hl with | [_], _ => rfl
theorem bn_read_value : ∀ (kV doc pm : Value) (an : Option Addr) (cdv ct : Value) (us : List Value), us.length = (["text", "masked", "at", "depth"] : List Str).length → bindArgs (PySem.W.fnOf "read_value" "read_value" (defArgs (top 10)) (defBody (top 10)) (defScope (top 10)) .none kV doc pm an cdv ct) ⟨us, []⟩ = pure ((["text", "masked", "at", "depth"] : List Str).zip us) := fun _ _ _ _ _ _ us hl => match us, hl with | [_, _, _, _], _ => rfl
theorem bn_read_members : ∀ (kV doc pm : Value) (an : Option Addr) (cdv ct : Value) (us : List Value), us.length = (["text", "masked", "at", "depth"] : List Str).length → bindArgs (PySem.W.fnOf "read_members" "read_members" (defArgs (top 11)) (defBody (top 11)) (defScope (top 11)) .none kV doc pm an cdv ct) ⟨us, []⟩ = pure ((["text", "masked", "at", "depth"] : List Str).zip us) := fun _ _ _ _ _ _ us hl => match us, hl with | [_, _, _, _], _ => rfl
theorem bn_read_number : ∀ (kV doc pm : Value) (an : Option Addr) (cdv ct : Value) (us : List Value), us.length = (["text", "at"] : List Str).length → bindArgs (PySem.W.fnOf "read_number" "read_number" (defArgs (top 12)) (defBody (top 12)) (defScope (top 12)) .none kV doc pm an cdv ct) ⟨us, []⟩ = pure ((["text", "at"] : List Str).zip us) := fun _ _ _ _ _ _ us hl => match us, hl with | [_, _], _ => rfl
theorem bn_read_quoted : ∀ (kV doc pm : Value) (an : Option Addr) (cdv ct : Value) (us : List Value), us.length = (["text", "masked", "at"] : List Str).length → bindArgs (PySem.W.fnOf "read_quoted" "read_quoted" (defArgs (top 13)) (defBody (top 13)) (defScope (top 13)) .none kV doc pm an cdv ct) ⟨us, []⟩ = pure ((["text", "masked", "at"] : List Str).zip us) := fun _ _ _ _ _ _ us hl => match us, hl with | [_, _, _], _ => rfl
theorem bn_can_be_quoted : ∀ (kV doc pm : Value) (an : Option Addr) (cdv ct : Value) (us : List Value), us.length = (["text"] : List Str).length → bindArgs (PySem.W.fnOf "can_be_quoted" "can_be_quoted" (defArgs (top 14)) (defBody (top 14)) (defScope (top 14)) .none kV doc pm an cdv ct) ⟨us, []⟩ = pure ((["text"] : List Str).zip us) := fun _ _ _ _ _ _ us hl => match us, hl with | [_], _ => rfl
theorem bn_unescaped : ∀ (kV doc pm : Value) (an : Option Addr) (cdv ct : Value) (us : List Value), us.length = (["inner"] : List Str).length → bindArgs (PySem.W.fnOf "unescaped" "unescaped" (defArgs (top 15)) (defBody (top 15)) (defScope (top 15)) .none kV doc pm an cdv ct) ⟨us, []⟩ = pure ((["inner"] : List Str).zip us) := fun _ _ _ _ _ _ us hl => match us, hl with | [_], _ => rfl
theorem bn_wrong_place : ∀ (kV doc pm : Value) (an : Option Addr) (cdv ct : Value) (us : List Value), us.length = (["text", "at"] : List Str).length → bindArgs (PySem.W.fnOf "wrong_place" "wrong_place" (defArgs (top 16)) (defBody (top 16)) (defScope (top 16)) .none kV doc pm an cdv ct) ⟨us, []⟩ = pure ((["text", "at"] : List Str).zip us) := fun _ _ _ _ _ _ us hl => match us, hl with | [_, _], _ => rfl
theorem bn_law_cell : ∀ (kV doc pm : Value) (an : Option Addr) (cdv ct : Value) (us : List Value), us.length = (["script", "k"] : List Str).length → bindArgs (PySem.W.fnOf "_law_cell" "_law_cell" (defArgs (top 18)) (defBody (top 18)) (defScope (top 18)) .none kV doc pm an cdv ct) ⟨us, []⟩ = pure ((["script", "k"] : List Str).zip us) := fun _ _ _ _ _ _ us hl => match us, hl with | [_, _], _ => rfl
theorem bn_law_digits : ∀ (kV doc pm : Value) (an : Option Addr) (cdv ct : Value) (us : List Value), us.length = (["script", "first", "last"] : List Str).length → bindArgs (PySem.W.fnOf "_law_digits" "_law_digits" (defArgs (top 19)) (defBody (top 19)) (defScope (top 19)) .none kV doc pm an cdv ct) ⟨us, []⟩ = pure ((["script", "first", "last"] : List Str).zip us) := fun _ _ _ _ _ _ us hl => match us, hl with | [_, _, _], _ => rfl
theorem bn_law_draw : ∀ (kV doc pm : Value) (an : Option Addr) (cdv ct : Value) (us : List Value), us.length = (["box", "many"] : List Str).length → bindArgs (PySem.W.fnOf "_law_draw" "_law_draw" (defArgs (top 20)) (defBody (top 20)) (defScope (top 20)) .none kV doc pm an cdv ct) ⟨us, []⟩ = pure ((["box", "many"] : List Str).zip us) := fun _ _ _ _ _ _ us hl => match us, hl with | [_, _], _ => rfl
theorem bn_law_same : ∀ (kV doc pm : Value) (an : Option Addr) (cdv ct : Value) (us : List Value), us.length = (["actual", "due"] : List Str).length → bindArgs (PySem.W.fnOf "_law_same" "_law_same" (defArgs (top 21)) (defBody (top 21)) (defScope (top 21)) .none kV doc pm an cdv ct) ⟨us, []⟩ = pure ((["actual", "due"] : List Str).zip us) := fun _ _ _ _ _ _ us hl => match us, hl with | [_, _], _ => rfl
theorem bn_law_plain : ∀ (kV doc pm : Value) (an : Option Addr) (cdv ct : Value) (us : List Value), us.length = (["value"] : List Str).length → bindArgs (PySem.W.fnOf "_law_plain" "_law_plain" (defArgs (top 22)) (defBody (top 22)) (defScope (top 22)) .none kV doc pm an cdv ct) ⟨us, []⟩ = pure ((["value"] : List Str).zip us) := fun _ _ _ _ _ _ us hl => match us, hl with | [_], _ => rfl
theorem bn_law_value : ∀ (kV doc pm : Value) (an : Option Addr) (cdv ct : Value) (us : List Value), us.length = (["box", "deep"] : List Str).length → bindArgs (PySem.W.fnOf "_law_value" "_law_value" (defArgs (top 23)) (defBody (top 23)) (defScope (top 23)) .none kV doc pm an cdv ct) ⟨us, []⟩ = pure ((["box", "deep"] : List Str).zip us) := fun _ _ _ _ _ _ us hl => match us, hl with | [_, _], _ => rfl
theorem bn_law : ∀ (kV doc pm : Value) (an : Option Addr) (cdv ct : Value) (us : List Value), us.length = (["script"] : List Str).length → bindArgs (PySem.W.fnOf "law" "law" (defArgs (top 24)) (defBody (top 24)) (defScope (top 24)) .none kV doc pm an cdv ct) ⟨us, []⟩ = pure ((["script"] : List Str).zip us) := fun _ _ _ _ _ _ us hl => match us, hl with | [_], _ => rfl
end PyI.K30
namespace PyI.K30
open PySem L2
theorem draw {k n : Nat} {μ : Mu} {ds : List Int} {at_ m : Int} (h : μ[n]? = some (.lst [.lst (ds.map D.int), .int at_])) (h0 : 0 ≤ at_) (hm : 0 < m) :
    ∃ r, 0 ≤ r ∧ r < m ∧ cl (k + 1) n_law_draw [.ref n, .int m] μ = .ok (.int r) (μ.set n (.lst [.lst (ds.map D.int), .int (at_ + 1)])) := by
  have e1 : atI ([.lst (ds.map D.int), .int at_] : List D) 1 = some (.int at_) := rfl
  have e0 : ∀ x : Int, atI ([.lst (ds.map D.int), .int x] : List D) 0 = some (.lst (ds.map D.int)) := fun _ => rfl
  have ei : ixN 2 1 = some 1 := rfl
  have hl : n < μ.length := (List.getElem?_eq_some_iff.mp h).1
  have h2 : ∀ m, (μ.set n m)[n]? = some m := fun m => by simp [hl]
  unfold cl
  rw [c_law_draw]
  by_cases hc : at_ < ds.length
  · obtain ⟨v, hv⟩ : ∃ v, atI (ds.map D.int) at_ = some (.int v) := by
      refine ⟨ds[at_.toNat]'(by omega), ?_⟩
      unfold atI ixN
      rw [if_pos h0, if_pos (by simpa using hc)]
      show (ds.map D.int)[at_.toNat]? = _
      rw [List.getElem?_map, List.getElem?_eq_getElem (by omega)]
      rfl
    refine ⟨v % m, Int.emod_nonneg _ (by omega), Int.emod_lt_of_pos _ hm, ?_⟩
    simp only [b_law_draw, f_law_draw, bind_ok, then_ok, next_nx, next_rt, next_br, next_ct, finO_rt, finO_nx, runB, runS, evalE, evalEs, evalT, evalO, evalIt, evalR, assignT, startR, List.map_cons, List.map_nil, List.length_cons, List.length_nil, List.replicate_zero, List.replicate_succ, Nat.zero_add, Nat.reduceAdd, Nat.reduceSub, List.cons_append, List.nil_append, List.append_nil, List.set_cons_zero, List.set_cons_succ, List.getElem?_cons_succ, List.getElem?_cons_zero, idxD, seqD, binD, setIxD, cmpD, truD, bifD, isiD, Int.reduceNeg, Bool.not_true, Bool.not_false, ↓reduceIte, Bool.false_eq_true, Bool.true_eq_false, if_true, if_false, h, e1, e0, ei, h2, List.length_map, hc, decide_true, hv, needs_pos hm]
    rw [fin_same (by simp)]
  · refine ⟨at_ * 7 % m, Int.emod_nonneg _ (by omega), Int.emod_lt_of_pos _ hm, ?_⟩
    have h7 : lim64 at_ ∨ lim64 7 := .inr (by decide)
    simp only [b_law_draw, f_law_draw, bind_ok, then_ok, next_nx, next_rt, next_br, next_ct, finO_rt, finO_nx, runB, runS, evalE, evalEs, evalT, evalO, evalIt, evalR, assignT, startR, List.map_cons, List.map_nil, List.length_cons, List.length_nil, List.replicate_zero, List.replicate_succ, Nat.zero_add, Nat.reduceAdd, Nat.reduceSub, List.cons_append, List.nil_append, List.append_nil, List.set_cons_zero, List.set_cons_succ, List.getElem?_cons_succ, List.getElem?_cons_zero, idxD, seqD, binD, setIxD, cmpD, truD, bifD, isiD, Int.reduceNeg, Bool.not_true, Bool.not_false, ↓reduceIte, Bool.false_eq_true, Bool.true_eq_false, if_true, if_false, h, e1, e0, ei, h2, List.length_map, hc, decide_false, needs_pos hm, needs_pos h7]
    rw [fin_same (by simp)]
end PyI.K30
/-! the plain law of k30: values and their texts. -/
namespace PyI.K30
open PySem L2
/-- a sign that a text of a value may hold -/
def sgn (c : Nat) : Bool := (decide (32 ≤ c) && decide (c ≤ 126) && c != 37) || c == 10
def escT (c : Nat) : List Nat := if c = 92 then [92, 92] else if c = 34 then [92, 34] else if c = 10 then [92, 110] else [c]
def mskT (c : Nat) : List Nat := if c = 92 then [46, 46] else if c = 34 then [46, 46] else if c = 10 then [92, 110] else [c]
mutual
def plainL : D → List Nat
  | .non => [78]
  | .bl b => if b then [84] else [70]
  | .int i => intL i
  | .str s => 34 :: (s.cps.toList.flatMap escT ++ [34])
  | .tup l => 40 :: (plainLs l ++ [41])
  | _ => []
def plainLs : List D → List Nat
  | [] => []
  | [d] => plainL d
  | d :: e :: r => plainL d ++ (32 :: plainLs (e :: r))
end
mutual
def maskL : D → List Nat
  | .non => [78]
  | .bl b => if b then [84] else [70]
  | .int i => intL i
  | .str s => 34 :: (s.cps.toList.flatMap mskT ++ [34])
  | .tup l => 40 :: (maskLs l ++ [41])
  | _ => []
def maskLs : List D → List Nat
  | [] => []
  | [d] => maskL d
  | d :: e :: r => maskL d ++ (32 :: maskLs (e :: r))
end
mutual
def okV : D → Bool
  | .non | .bl _ => true
  | .int i => decide (i.natAbs < 10 ^ 20)
  | .str s => s.cps.toList.all sgn
  | .tup l => okVs l
  | _ => false
def okVs : List D → Bool
  | [] => true
  | d :: ds => okV d && okVs ds
end
mutual
def dep : D → Nat
  | .tup l => deps l + 1
  | _ => 0
def deps : List D → Nat
  | [] => 0
  | d :: ds => max (dep d) (deps ds)
end
theorem okVs_mem : ∀ {l : List D}, okVs l = true → ∀ d ∈ l, okV d = true
  | e :: l, h, d, hd => by
    simp only [okVs, Bool.and_eq_true] at h
    rcases List.mem_cons.mp hd with rfl | q
    · exact h.1
    · exact okVs_mem h.2 d q
theorem okVs_of : ∀ {l : List D}, (∀ d ∈ l, okV d = true) → okVs l = true
  | [], _ => rfl
  | e :: l, h => by
    simp only [okVs, Bool.and_eq_true]
    exact ⟨h e (List.mem_cons_self ..), okVs_of fun d hd => h d (List.mem_cons_of_mem _ hd)⟩
theorem deps_mem : ∀ {l : List D}, ∀ d ∈ l, dep d ≤ deps l
  | e :: l, d, hd => by
    simp only [deps]
    rcases List.mem_cons.mp hd with rfl | q
    · omega
    · have := deps_mem d q
      omega
mutual
theorem okV.pure : ∀ {d : D}, okV d = true → pureD d = true
  | .non, _ | .bl _, _ | .int _, _ | .str _, _ => rfl
  | .ref _, h => by cases h
  | .lst _, h => by cases h
  | .tup l, h => okVs.pure (l := l) h
theorem okVs.pure : ∀ {l : List D}, okVs l = true → pureDs l = true
  | [], _ => rfl
  | d :: l, h => by
    simp only [okVs, Bool.and_eq_true] at h
    simp only [pureDs, Bool.and_eq_true]
    exact ⟨okV.pure h.1, okVs.pure h.2⟩
end
theorem plainLs_join : ∀ l : List D, plainLs l = TL.joinL [32] (l.map plainL)
  | [] => rfl
  | [_] => by simp only [plainLs, List.map_cons, List.map_nil, TL.joinL]
  | d :: e :: r => by
    simp only [plainLs, List.map_cons, TL.joinL, plainLs_join (e :: r), List.cons_append, List.nil_append]
theorem intL_len (i : Int) : (intL i).length ≠ 0 := by
  cases i with
  | ofNat n => exact fun h => TL.numL_ne n (List.length_eq_zero_iff.mp h)
  | negSucc n => simp [intL]
theorem plain_pos : ∀ {d : D}, okV d = true → 1 ≤ (plainL d).length
  | .non, _ => Nat.le_refl _
  | .bl b, _ => by cases b <;> exact Nat.le_refl _
  | .int i, _ => Nat.pos_of_ne_zero (intL_len i)
  | .str _, _ => by simp [plainL]
  | .tup _, _ => by simp [plainL]
  | .ref _, h => by cases h
  | .lst _, h => by cases h
theorem plains_len : ∀ {l : List D}, okVs l = true → l.length ≤ (plainLs l).length
  | [], _ => Nat.le_refl _
  | [d], h => by
    simp only [okVs, Bool.and_true] at h
    exact plain_pos h
  | d :: e :: r, h => by
    have h' : okV d = true ∧ okVs (e :: r) = true := by simpa only [okVs, Bool.and_eq_true] using h
    have := plains_len h'.2
    simp only [plainLs, List.length_cons, List.length_append] at *
    omega
theorem plains_mem : ∀ {l : List D}, ∀ d ∈ l, (plainL d).length ≤ (plainLs l).length
  | [e], d, hd => by
    rw [List.mem_singleton.mp hd]
    exact Nat.le_refl _
  | e :: f :: r, d, hd => by
    simp only [plainLs, List.length_cons, List.length_append]
    rcases List.mem_cons.mp hd with rfl | q
    · omega
    · have := plains_mem d q
      omega
theorem joined_len : ∀ l : List (List Nat), (l.map List.length).sum + l.length ≤ (TL.joinL [32] l).length + 1
  | [] => by simp
  | [_] => by simp [TL.joinL]
  | p :: q :: r => by
    have := joined_len (q :: r)
    simp only [TL.joinL, List.map_cons, List.sum_cons, List.length_cons, List.length_append, List.length_nil] at *
    omega
/-! ### texts of signs -/
theorem esc_repl (l : List Nat) : StrLaws.replL [10] [92, 110] (StrLaws.replL [34] [92, 34] (StrLaws.replL [92] [92, 92] l)) = l.flatMap escT := by
  have one : ∀ (y : Nat) (z l : List Nat), StrLaws.replL [y] z l = l.flatMap fun c => if c = y then z else [c] := by
    intro y z l
    induction l with
    | nil => exact StrLaws.replL_nil
    | cons c r ih =>
      by_cases h : c = y
      · rw [StrLaws.replL_hit (by simp) (by simp [h])]
        simp [h, ih]
      · rw [StrLaws.replL_miss (by simpa using h), ih]
        simp [h]
  rw [one, one, one, List.flatMap_assoc, List.flatMap_assoc]
  congr 1
  funext c
  unfold escT
  by_cases h1 : c = 92
  · subst h1; rfl
  by_cases h2 : c = 34
  · subst h2; rfl
  by_cases h3 : c = 10
  · subst h3; rfl
  simp [h1, h2, h3]
theorem esc_len (l : List Nat) : (l.flatMap mskT).length = (l.flatMap escT).length := by
  induction l with
  | nil => rfl
  | cons c r ih =>
    have e : (mskT c).length = (escT c).length := by
      unfold mskT escT
      split
      · rfl
      split
      · rfl
      split <;> rfl
    simp [ih, e]
theorem esc_le (l : List Nat) : l.length ≤ (l.flatMap escT).length ∧ (l.flatMap escT).length ≤ 2 * l.length := by
  induction l with
  | nil => exact ⟨Nat.le_refl _, Nat.le_refl _⟩
  | cons c r ih =>
    have e : 1 ≤ (escT c).length ∧ (escT c).length ≤ 2 := by
      unfold escT
      split
      · decide
      split
      · decide
      split <;> simp
    rw [List.flatMap_cons, List.length_append, List.length_cons]
    omega
theorem esc_msk : ∀ l : List Nat, 34 ∉ l.flatMap mskT := by
  intro l h
  obtain ⟨c, _, h⟩ := List.mem_flatMap.mp h
  unfold mskT at h
  split at h
  · simp at h
  split at h
  · simp at h
  split at h
  · simp at h
  · simp_all
/-- a sign of an inner text -/
def sin (c : Nat) : Bool := decide (32 ≤ c) && decide (c ≤ 126) && c != 37
theorem esc_sin {l : List Nat} (h : l.all sgn = true) : (l.flatMap escT).all sin = true := by
  rw [List.all_eq_true] at *
  intro c hc
  obtain ⟨d, hd, hc⟩ := List.mem_flatMap.mp hc
  have hs := h d hd
  unfold sgn at hs
  unfold escT at hc
  split at hc
  · simp at hc; subst hc; rfl
  split at hc
  · simp at hc; rcases hc with rfl | rfl <;> rfl
  split at hc
  · simp at hc; rcases hc with rfl | rfl <;> rfl
  · rw [List.mem_singleton.mp hc]
    unfold sin
    simp_all
theorem prin : ∀ c : Nat, c < 127 → 32 ≤ c → Unicode.isPrintable c = true := by decide +kernel
end PyI.K30
/-! the plain law of k30: a text is cut, unescaped and masked. -/
namespace PyI.K30
open PySem L2
def cut : List Nat → List Nat → List (List Nat)
  | acc, [] => [acc]
  | acc, c :: r => if c = 92 then acc :: cut [] r else cut (acc ++ [c]) r
theorem cut_free : ∀ (s acc : List Nat), 92 ∉ acc → ∀ p ∈ cut acc s, 92 ∉ p
  | [], acc, h, p, hp => by
    rw [cut] at hp
    rw [List.mem_singleton.mp hp]
    exact h
  | c :: r, acc, h, p, hp => by
    rw [cut] at hp
    by_cases hc : c = 92
    · rw [if_pos hc] at hp
      rcases List.mem_cons.mp hp with rfl | q
      · exact h
      · exact cut_free r [] (by simp) p q
    · rw [if_neg hc] at hp
      exact cut_free r _ (by simp [h]; omega) p hp
theorem cut_ne (s acc : List Nat) : cut acc s ≠ [] := by
  induction s generalizing acc with
  | nil => simp [cut]
  | cons c r ih =>
    rw [cut]
    split
    · simp
    · exact ih _
theorem cut_join : ∀ (s acc : List Nat), TL.joinL [92] (cut acc s) = acc ++ s
  | [], acc => by simp [cut, TL.joinL]
  | c :: r, acc => by
    rw [cut]
    by_cases hc : c = 92
    · subst hc
      rw [if_pos rfl]
      have := cut_join r []
      cases h : cut [] r with
      | nil => exact absurd h (cut_ne r [])
      | cons a t =>
        rw [h] at this
        simp only [TL.joinL, this]
        rfl
    · rw [if_neg hc, cut_join r]
      simp
theorem cut_mem : ∀ (s acc : List Nat), ∀ p ∈ cut acc s, p.length ≤ acc.length + s.length
  | [], acc, p, hp => by
    rw [cut] at hp
    rw [List.mem_singleton.mp hp]
    simp
  | c :: r, acc, p, hp => by
    rw [cut] at hp
    by_cases hc : c = 92
    · rw [if_pos hc] at hp
      rcases List.mem_cons.mp hp with rfl | q
      · simp
      · have := cut_mem r [] p q
        simp at *
        omega
    · rw [if_neg hc] at hp
      have := cut_mem r _ p hp
      simp at *
      omega
theorem cut_count : ∀ (s acc : List Nat), (cut acc s).length ≤ s.length + 1
  | [], acc => by simp [cut]
  | c :: r, acc => by
    rw [cut]
    split
    · have := cut_count r []
      simp
      omega
    · have := cut_count r (acc ++ [c])
      simp
      omega
theorem escT_92 : escT 92 = [92, 92] := rfl
theorem escT_34 : escT 34 = [92, 34] := rfl
theorem escT_10 : escT 10 = [92, 110] := rfl
theorem escT_o {c : Nat} (h1 : c ≠ 92) (h2 : c ≠ 34) (h3 : c ≠ 10) : escT c = [c] := by simp [escT, h1, h2, h3]
theorem spl_esc : ∀ (s acc : List Nat), TL.spl [92, 92] 0 (acc.flatMap escT) (s.flatMap escT) = (cut acc s).map (List.flatMap escT)
  | [], acc => by simp [cut, TL.spl_nil]
  | c :: r, acc => by
    rw [cut, List.flatMap_cons]
    by_cases hc : c = 92
    · subst hc
      rw [if_pos rfl, escT_92]
      show TL.spl [92, 92] 0 _ (92 :: 92 :: r.flatMap escT) = _
      rw [TL.spl_hit (by simp [TL.pre]), TL.spl_pass]
      have := spl_esc r []
      simpa using this
    · rw [if_neg hc, ← spl_esc r, List.flatMap_append, List.flatMap_cons, List.flatMap_nil, List.append_nil]
      by_cases h2 : c = 34
      · subst h2
        rw [escT_34]
        show TL.spl [92, 92] 0 _ (92 :: 34 :: r.flatMap escT) = _
        rw [TL.spl_miss (by simp [TL.pre]), TL.spl_miss (by simp [TL.pre])]
        simp
      by_cases h3 : c = 10
      · subst h3
        rw [escT_10]
        show TL.spl [92, 92] 0 _ (92 :: 110 :: r.flatMap escT) = _
        rw [TL.spl_miss (by simp [TL.pre]), TL.spl_miss (by simp [TL.pre])]
        simp
      rw [escT_o hc h2 h3]
      show TL.spl [92, 92] 0 _ (c :: r.flatMap escT) = _
      rw [TL.spl_miss (TL.pre_of_head _ _ hc)]
open StrLaws in
theorem unq1 : ∀ p : List Nat, 92 ∉ p → replL [92, 34] [34] (p.flatMap escT) = p.flatMap fun c => if c = 10 then [92, 110] else [c]
  | [], _ => replL_nil
  | c :: r, h => by
    have hc : c ≠ 92 := fun e => h (by simp [e])
    have ih := unq1 r fun e => h (by simp [e])
    rw [List.flatMap_cons, List.flatMap_cons, ← ih]
    by_cases h2 : c = 34
    · subst h2
      rw [escT_34]
      show replL [92, 34] [34] (92 :: 34 :: r.flatMap escT) = _
      rw [replL_hit (by simp) (by simp)]
      rfl
    by_cases h3 : c = 10
    · subst h3
      rw [escT_10]
      show replL [92, 34] [34] (92 :: 110 :: r.flatMap escT) = _
      rw [replL_miss (by simp), replL_miss (by simp)]
      rfl
    rw [escT_o hc h2 h3, if_neg h3]
    show replL [92, 34] [34] (c :: r.flatMap escT) = _
    rw [replL_miss (by simp [hc])]
    rfl
open StrLaws in
theorem unq2 : ∀ p : List Nat, 92 ∉ p → replL [92, 110] [10] (p.flatMap fun c => if c = 10 then [92, 110] else [c]) = p
  | [], _ => replL_nil
  | c :: r, h => by
    have hc : c ≠ 92 := fun e => h (by simp [e])
    have ih := unq2 r fun e => h (by simp [e])
    rw [List.flatMap_cons]
    by_cases h3 : c = 10
    · subst h3
      rw [if_pos rfl]
      refine (replL_hit (c := 92) (r := 110 :: r.flatMap fun c => if c = 10 then [92, 110] else [c]) (by simp) (by simp)).trans ?_
      show [10] ++ replL [92, 110] [10] (r.flatMap fun c => if c = 10 then [92, 110] else [c]) = _
      rw [ih]
      rfl
    rw [if_neg h3]
    refine (replL_miss (c := c) (r := r.flatMap fun c => if c = 10 then [92, 110] else [c]) (by simp [hc])).trans ?_
    rw [ih]
theorem esc_none : ∀ {l : List Nat}, 92 ∉ l.flatMap escT → l.flatMap escT = l
  | [], _ => rfl
  | c :: r, h => by
    rw [List.flatMap_cons] at *
    have ih := esc_none (l := r) fun e => h (List.mem_append_right _ e)
    rw [ih]
    have h' : 92 ∉ escT c := fun e => h (List.mem_append_left _ e)
    by_cases h1 : c = 92
    · subst h1; exact absurd (by simp [escT]) h'
    by_cases h2 : c = 34
    · subst h2; exact absurd (by simp [escT]) h'
    by_cases h3 : c = 10
    · subst h3; exact absurd (by simp [escT]) h'
    rw [escT_o h1 h2 h3]
    rfl
/-! ### masked -/
open StrLaws in
def M (a b : List Nat) : Prop := ∃ m, (∀ r, replL [92, 92] [46, 46] (a ++ r) = m ++ replL [92, 92] [46, 46] r) ∧ (∀ r, replL [92, 34] [46, 46] (m ++ r) = b ++ replL [92, 34] [46, 46] r)
theorem M.nil : M [] [] := ⟨[], fun _ => rfl, fun _ => rfl⟩
theorem M.app {a b c d : List Nat} (h : M a b) (g : M c d) : M (a ++ c) (b ++ d) := by
  obtain ⟨m, h1, h2⟩ := h
  obtain ⟨n, g1, g2⟩ := g
  exact ⟨m ++ n, fun r => by rw [List.append_assoc, h1, g1, List.append_assoc], fun r => by rw [List.append_assoc, h2, g2, List.append_assoc]⟩
open StrLaws in
theorem M.one {c : Nat} (h : c ≠ 92) : M [c] [c] := ⟨[c], fun r => by
  show replL _ _ (c :: r) = _
  rw [replL_miss (by simp [h])]
  rfl, fun r => by
  show replL _ _ (c :: r) = _
  rw [replL_miss (by simp [h])]
  rfl⟩
theorem M.free : ∀ {l : List Nat}, 92 ∉ l → M l l
  | [], _ => .nil
  | c :: r, h => M.app (a := [c]) (b := [c]) (.one fun e => h (by simp [e])) (M.free fun e => h (by simp [e]))
open StrLaws in
theorem M.sign (c : Nat) : M (escT c) (mskT c) := by
  by_cases h1 : c = 92
  · subst h1
    refine ⟨[46, 46], fun r => ?_, fun r => ?_⟩
    · show replL _ _ (92 :: 92 :: r) = _
      rw [replL_hit (by simp) (by simp)]
      rfl
    · show replL _ _ (46 :: 46 :: r) = _
      rw [replL_miss (by simp), replL_miss (by simp)]
      rfl
  by_cases h2 : c = 34
  · subst h2
    refine ⟨[92, 34], fun r => ?_, fun r => ?_⟩
    · show replL _ _ (92 :: 34 :: r) = _
      rw [replL_miss (by simp), replL_miss (by simp)]
      rfl
    · show replL _ _ (92 :: 34 :: r) = _
      rw [replL_hit (by simp) (by simp)]
      rfl
  by_cases h3 : c = 10
  · subst h3
    refine ⟨[92, 110], fun r => ?_, fun r => ?_⟩
    · show replL _ _ (92 :: 110 :: r) = _
      rw [replL_miss (by simp), replL_miss (by simp)]
      rfl
    · show replL _ _ (92 :: 110 :: r) = _
      rw [replL_miss (by simp), replL_miss (by simp)]
      rfl
  have e : mskT c = [c] := by simp [mskT, h1, h2, h3]
  rw [escT_o h1 h2 h3, e]
  exact .one h1
theorem M.text : ∀ l : List Nat, M (l.flatMap escT) (l.flatMap mskT)
  | [] => .nil
  | c :: r => by
    rw [List.flatMap_cons, List.flatMap_cons]
    exact (M.sign c).app (M.text r)
theorem int_free (i : Int) : 92 ∉ intL i := by
  cases i with
  | ofNat n => exact TL.numL_free (.inr (by decide))
  | negSucc n =>
    intro h
    rcases List.mem_cons.mp h with q | q
    · cases q
    · exact TL.numL_free (.inr (by decide)) q
mutual
theorem M.plain : ∀ v : D, M (plainL v) (maskL v)
  | .non => .free (by simp [plainL])
  | .bl true => .free (by simp [plainL])
  | .bl false => .free (by simp [plainL])
  | .int i => .free (int_free i)
  | .str s => by
    simp only [plainL, maskL]
    exact M.app (a := [34]) (b := [34]) (.one (by decide)) (M.app (M.text _) (.one (by decide)))
  | .tup l => by
    simp only [plainL, maskL]
    exact M.app (a := [40]) (b := [40]) (.one (by decide)) (M.app (M.plains l) (.one (by decide)))
  | .lst _ => by simp only [plainL, maskL]; exact .nil
  | .ref _ => by simp only [plainL, maskL]; exact .nil
theorem M.plains : ∀ l : List D, M (plainLs l) (maskLs l)
  | [] => .nil
  | [d] => M.plain d
  | d :: e :: r => by
    simp only [plainLs, maskLs]
    exact (M.plain d).app (M.app (a := [32]) (b := [32]) (.one (by decide)) (M.plains (e :: r)))
end
open StrLaws in
theorem masked (v : D) : replL [92, 34] [46, 46] (replL [92, 92] [46, 46] (plainL v)) = maskL v := by
  obtain ⟨m, h1, h2⟩ := M.plain v
  have e1 := h1 []
  have e2 := h2 []
  rw [replL_nil, List.append_nil, List.append_nil] at e1 e2
  rw [e1, e2]
mutual
theorem mask_len : ∀ v : D, (maskL v).length = (plainL v).length
  | .non | .int _ | .lst _ | .ref _ => rfl
  | .bl b => by cases b <;> rfl
  | .str s => by simp only [plainL, maskL, List.length_cons, List.length_append, esc_len]
  | .tup l => by simp only [plainL, maskL, List.length_cons, List.length_append, masks_len l]
theorem masks_len : ∀ l : List D, (maskLs l).length = (plainLs l).length
  | [] => rfl
  | [d] => mask_len d
  | d :: e :: r => by simp only [plainLs, maskLs, List.length_cons, List.length_append, mask_len d, masks_len (e :: r)]
end
end PyI.K30
namespace PyI.K30
open PySem L2
theorem quoted_ok {k : Nat} {l : List Nat} {μ : Mu} (h : l.all sin = true) (hl : l.length ≤ 1000000) : cl (k + 1) n_can_be_quoted [.str (tx l)] μ = .ok (.bl true) μ := by
  have a1 : ∀ c ∈ l, 32 ≤ c ∧ c ≤ 126 ∧ c ≠ 37 := fun c hc => by
    have := List.all_eq_true.mp h c hc
    simp only [sin, Bool.and_eq_true, decide_eq_true_eq, bne_iff_ne] at this
    omega
  have e1 : Txt.isascii (tx l) = true := by
    unfold Txt.isascii
    rw [tx_all, List.all_eq_true]
    intro c hc
    have := a1 c hc
    simp; omega
  have e2 : Txt.isprintable (tx l) = true := by
    unfold Txt.isprintable
    rw [tx_all, List.all_eq_true]
    intro c hc
    have := a1 c hc
    exact prin c (by omega) (by omega)
  have e3 : tr37S (tx l) = tx l := by
    unfold tr37S
    rw [tx_l, List.filter_eq_self.mpr]
    · rfl
    · intro c hc
      have := a1 c hc
      simp; omega
  have e4 : (tx l).length ≤ 1000000 ∧ (tx l).cps.all (· < 128) = true := ⟨by rw [tx_len]; exact hl, e1⟩
  have e5 : (tx l).length ≤ 16777216 := by rw [tx_len]; omega
  have e6 : ∀ i : Int, (eqOk 64 (.int i) = true ∧ eqOk 64 (.int i) = true) := fun _ => ⟨rfl, rfl⟩
  unfold cl
  rw [c_can_be_quoted]
  simp only [b_can_be_quoted, f_can_be_quoted, bind_ok, then_ok, next_nx, next_rt, next_br, next_ct, finO_rt, finO_nx, runB, runS, evalE, evalEs, evalT, evalO, evalIt, evalR, assignT, startR, List.map_cons, List.map_nil, List.length_cons, List.length_nil, List.replicate_zero, List.replicate_succ, Nat.zero_add, Nat.reduceAdd, Nat.reduceSub, List.cons_append, List.nil_append, List.append_nil, List.set_cons_zero, List.set_cons_succ, List.getElem?_cons_succ, List.getElem?_cons_zero, idxD, seqD, binD, setIxD, cmpD, truD, bifD, isiD, Int.reduceNeg, Bool.not_true, Bool.not_false, ↓reduceIte, Bool.false_eq_true, Bool.true_eq_false, if_true, if_false, List.zip_cons_cons, List.zip_nil_right, List.zip_nil_left, List.foldl_cons, List.foldl_nil, tyf, Bool.or_false, Bool.false_or, Bool.or_true, Bool.true_or, Bool.or_self, metD, tyD, e1, e2, tr37D, e3, needs_pos e4, needs_pos e5, needs_pos trivial, deref, needs_pos (e6 _), eqD, beq_self_eq_true]
  rw [fin_same rfl]
theorem repl_len {y z : List Nat} (hy : y ≠ []) (hz : z.length ≤ y.length) : ∀ (n : Nat) (l : List Nat), l.length ≤ n → (StrLaws.replL y z l).length ≤ l.length
  | _, [], _ => by rw [StrLaws.replL_nil]; exact Nat.le_refl _
  | 0, c :: r, h => absurd h (by simp)
  | n + 1, c :: r, h => by
    by_cases e : (c :: r).take y.length = y
    · rw [StrLaws.replL_hit hy e]
      have : 1 ≤ y.length := List.length_pos_iff.mpr hy
      have q := congrArg List.length e
      rw [List.length_take] at q
      have := repl_len hy hz n ((c :: r).drop y.length) (by rw [List.length_drop]; simp at *; omega)
      rw [List.length_append]
      rw [List.length_drop] at this
      simp at *
      omega
    · rw [StrLaws.replL_miss e]
      have := repl_len hy hz n r (by simpa using h)
      simpa using this
theorem unescaped_ok {k : Nat} {s : List Nat} {μ : Mu} (hμ : PureM μ) (hl : s.length ≤ 100000) : cl (k + 1) n_unescaped [.str (tx (s.flatMap escT))] μ = .ok (.str (tx s)) μ := by
  have hle := esc_le s
  unfold cl
  rw [c_unescaped]
  have g0 : 0 ≤ 16777216 := Nat.zero_le _
  have hsp : ¬ (tx [92, 92]).length = 0 ∧ (tx (s.flatMap escT)).length + 2 ≤ 16777216 := ⟨by rw [tx_len]; decide, by rw [tx_len]; omega⟩
  have es : Txt.split (tx (s.flatMap escT)) (tx [92, 92]) = ((cut [] s).map (List.flatMap escT)).map tx := by
    rw [tx_split _ _ (by simp) (by decide)]
    have := spl_esc s []
    rw [← this]
    rfl
  have loop := for_inv (f := fun d ρ μ => match assignT (.nm 2) d ρ with
      | some ρ' => runB (gg k) (.cons (.setR 3 (.repl (.repl (.base (.var 2)) "\\\"" "\"") "\\n" "\n"))
    (.cons (.ifs (.val (.cmp .in_ (.cst (.str "\\")) (.var 3))) (.cons (.ret (.cst .non))
    .nil) .nil)
    (.cons (.expr (.met .append (.var 1) (.cons (.var 3) .nil)))
    .nil))) ρ' μ
      | none => .stuck) (fun ds ρ ν => ∃ done ps r2 r3, cut [] s = done ++ ps ∧ ds = ps.map (fun p => D.str (tx (p.flatMap escT))) ∧ ρ = [some (.str (tx (s.flatMap escT))), some (.ref μ.length), r2, r3] ∧ ν = μ ++ [.lst (done.map fun p => D.str (tx p))])
      (ds := (cut [] s).map (fun p => D.str (tx (p.flatMap escT)))) (ρ := [some (.str (tx (s.flatMap escT))), some (.ref μ.length), none, none]) (μ := μ ++ [.lst []])
      ⟨[], cut [] s, none, none, rfl, rfl, rfl, rfl⟩ (by
        rintro d ds ρ ν ⟨done, ps, r2, r3, hd, e, rfl, rfl⟩
        cases ps with
        | nil => cases e
        | cons p ps =>
          rw [List.map_cons] at e
          injection e with e1 e2
          subst e1 e2
          have hm : p ∈ cut [] s := by rw [hd]; simp
          have hf := cut_free s [] (by simp) p hm
          have hpl := cut_mem s [] p hm
          have hcc := cut_count s []
          have hpe := esc_le p
          rw [hd] at hcc
          simp only [List.length_append, List.length_cons, List.length_nil] at hcc hpl
          have q1 : (tx (p.flatMap escT)).length + ((tx (p.flatMap escT)).length + 1) * (tx [34]).length ≤ 16777216 := by
            rw [tx_len, tx_len]
            simp only [List.length_cons, List.length_nil]
            omega
          have q2 : (tx (p.flatMap fun c => if c = 10 then [92, 110] else [c])).length + ((tx (p.flatMap fun c => if c = 10 then [92, 110] else [c])).length + 1) * (tx [10]).length ≤ 16777216 := by
            have := repl_len (y := [92, 34]) (z := [34]) (by simp) (by simp) _ (p.flatMap escT) (Nat.le_refl _)
            rw [unq1 p hf] at this
            rw [tx_len, tx_len]
            simp only [List.length_cons, List.length_nil]
            omega
          have q3 : ((done.map fun p => D.str (tx p)).length < 16777216) := by
            rw [List.length_map]
            omega
          refine ⟨[some (.str (tx (s.flatMap escT))), some (.ref μ.length), some (.str (tx (p.flatMap escT))), some (.str (tx p))], μ ++ [.lst ((done ++ [p]).map fun p => D.str (tx p))], ?_, done ++ [p], ps, some (.str (tx (p.flatMap escT))), some (.str (tx p)), by simp [hd], rfl, rfl, rfl⟩
          · simp only [bind_ok, then_ok, next_nx, next_rt, next_br, next_ct, finO_rt, finO_nx, runB, runS, evalE, evalEs, evalT, evalO, evalIt, evalR, assignT, startR, List.map_cons, List.map_nil, List.length_cons, List.length_nil, List.replicate_zero, List.replicate_succ, Nat.zero_add, Nat.reduceAdd, Nat.reduceSub, List.cons_append, List.nil_append, List.append_nil, List.set_cons_zero, List.set_cons_succ, List.getElem?_cons_succ, List.getElem?_cons_zero, idxD, seqD, binD, setIxD, cmpD, truD, bifD, isiD, Int.reduceNeg, Bool.not_true, Bool.not_false, ↓reduceIte, Bool.false_eq_true, Bool.true_eq_false, if_true, if_false, List.zip_cons_cons, List.zip_nil_right, List.zip_nil_left, List.foldl_cons, List.foldl_nil, tyf, Bool.or_false, Bool.false_or, Bool.or_true, Bool.true_or, Bool.or_self, replD, t_6, t_9, t_8, t_10, t_11, needs_pos q1, tx_repl _ [92, 34] [34] (by simp), unq1 p hf, needs_pos q2, tx_repl _ [92, 110] [10] (by simp), unq2 p hf, tx_in, hf, decide_false, tyD, snoc_get, needs_pos trivial, metD, needs_pos q3, snoc_set, List.map_append])
  obtain ⟨ρ', μ', e, done, ps, r2, r3, hd, e1, e2, e3⟩ := loop
  have hps : ps = [] := List.map_eq_nil_iff.mp e1.symm
  subst hps e2 e3
  rw [List.append_nil] at hd
  rw [← hd] at e
  have hj := cut_join s []
  have hje : TL.joinL [92] (cut [] s) = s := hj
  have ej : Txt.join (tx [92]) ((cut [] s).map tx) = tx s := by rw [tx_join, hje]
  have hsum : ∀ l : List (List Nat), (l.map List.length).sum + l.length ≤ (TL.joinL [92] l).length + 1 := by
    intro l
    induction l with
    | nil => simp
    | cons p r ih =>
      cases r with
      | nil => simp [TL.joinL]
      | cons q r =>
        simp only [TL.joinL, List.map_cons, List.sum_cons, List.length_cons, List.length_append, List.length_nil] at *
        omega
  have q4 : (((cut [] s).map tx).map (·.length)).sum + ((cut [] s).map tx).length * (tx [92]).length ≤ 16777216 := by
    have := hsum (cut [] s)
    rw [hje] at this
    rw [List.map_map, List.length_map, tx_len]
    have e : ((cut [] s).map ((fun x : Str => x.length) ∘ tx)) = (cut [] s).map List.length := List.map_congr_left fun l _ => tx_len l
    rw [e]
    simp only [List.length_cons, List.length_nil]
    omega
  have est : strsOf ((cut [] s).map fun p => D.str (tx p)) = some ((cut [] s).map tx) := by
    have := strs_map ((cut [] s).map tx)
    rw [List.map_map] at this
    exact this
  have emap : (((cut [] s).map (List.flatMap escT)).map tx).map D.str = (cut [] s).map (fun p => D.str (tx (p.flatMap escT))) := by
    rw [List.map_map, List.map_map]
    rfl
  have full : runB (gg k) b_unescaped (startR f_unescaped.N.length [.str (tx (s.flatMap escT))]) μ = .rt (.str (tx s)) (μ ++ [.lst ((cut [] s).map fun p => D.str (tx p))]) := by
    unfold b_unescaped
    refine run_nx (ρ' := [some (.str (tx (s.flatMap escT))), some (.ref μ.length), none, none]) (μ' := μ ++ [.lst []]) ?_ ?_
    · simp only [f_unescaped, bind_ok, then_ok, next_nx, next_rt, next_br, next_ct, finO_rt, finO_nx, runB, runS, evalE, evalEs, evalT, evalO, evalIt, evalR, assignT, startR, List.map_cons, List.map_nil, List.length_cons, List.length_nil, List.replicate_zero, List.replicate_succ, Nat.zero_add, Nat.reduceAdd, Nat.reduceSub, List.cons_append, List.nil_append, List.append_nil, List.set_cons_zero, List.set_cons_succ, List.getElem?_cons_succ, List.getElem?_cons_zero, idxD, seqD, binD, setIxD, cmpD, truD, bifD, isiD, Int.reduceNeg, Bool.not_true, Bool.not_false, ↓reduceIte, Bool.false_eq_true, Bool.true_eq_false, if_true, if_false, List.zip_cons_cons, List.zip_nil_right, List.zip_nil_left, List.foldl_cons, List.foldl_nil, tyf, Bool.or_false, Bool.false_or, Bool.or_true, Bool.true_or, Bool.or_self, needs_pos g0]
    refine run_nx (ρ' := [some (.str (tx (s.flatMap escT))), some (.ref μ.length), r2, r3]) (μ' := μ ++ [.lst ((cut [] s).map fun p => D.str (tx p))]) ?_ ?_
    · rw [runS]
      have ei : evalIt (gg k) (.seq (.met .split (.var 0) (.cons (.cst (.str "\\\\")) .nil))) [some (.str (tx (s.flatMap escT))), some (.ref μ.length), none, none] (μ ++ [.lst []]) = .ok ((cut [] s).map (fun p => D.str (tx (p.flatMap escT))), none) (μ ++ [.lst []]) := by
        simp only [bind_ok, then_ok, next_nx, next_rt, next_br, next_ct, finO_rt, finO_nx, runB, runS, evalE, evalEs, evalT, evalO, evalIt, evalR, assignT, startR, List.map_cons, List.map_nil, List.length_cons, List.length_nil, List.replicate_zero, List.replicate_succ, Nat.zero_add, Nat.reduceAdd, Nat.reduceSub, List.cons_append, List.nil_append, List.append_nil, List.set_cons_zero, List.set_cons_succ, List.getElem?_cons_succ, List.getElem?_cons_zero, idxD, seqD, binD, setIxD, cmpD, truD, bifD, isiD, Int.reduceNeg, Bool.not_true, Bool.not_false, ↓reduceIte, Bool.false_eq_true, Bool.true_eq_false, if_true, if_false, List.zip_cons_cons, List.zip_nil_right, List.zip_nil_left, List.foldl_cons, List.foldl_nil, tyf, Bool.or_false, Bool.false_or, Bool.or_true, Bool.true_or, Bool.or_self, tyD, needs_pos trivial, metD, t_7, needs_pos hsp, es, emap, itD]
      rw [ei, then_ok]
      rw [hd]
      rw [hd] at e
      exact e
    refine run_rt ?_
    simp only [bind_ok, then_ok, next_nx, next_rt, next_br, next_ct, finO_rt, finO_nx, runB, runS, evalE, evalEs, evalT, evalO, evalIt, evalR, assignT, startR, List.map_cons, List.map_nil, List.length_cons, List.length_nil, List.replicate_zero, List.replicate_succ, Nat.zero_add, Nat.reduceAdd, Nat.reduceSub, List.cons_append, List.nil_append, List.append_nil, List.set_cons_zero, List.set_cons_succ, List.getElem?_cons_succ, List.getElem?_cons_zero, idxD, seqD, binD, setIxD, cmpD, truD, bifD, isiD, Int.reduceNeg, Bool.not_true, Bool.not_false, ↓reduceIte, Bool.false_eq_true, Bool.true_eq_false, if_true, if_false, List.zip_cons_cons, List.zip_nil_right, List.zip_nil_left, List.foldl_cons, List.foldl_nil, tyf, Bool.or_false, Bool.false_or, Bool.or_true, Bool.true_or, Bool.or_self, tyD, needs_pos trivial, metD, t_6, snoc_get, Option.bind, est, needs_pos q4, ej]
  rw [full, finO_rt, fin_one hμ rfl]
end PyI.K30
namespace PyI.K30
open PySem L2
theorem read_quoted_ok {k : Nat} {s p mp r mr : List Nat} {μ : Mu} (hμ : PureM μ) (hs : s.all sgn = true) (hp : mp.length = p.length) (hl : s.length ≤ 100000) (ht : p.length + r.length ≤ 10000000) :
    cl (k + 2) n_read_quoted [.str (tx (p ++ (s.flatMap escT ++ 34 :: r))), .str (tx (mp ++ (s.flatMap mskT ++ 34 :: mr))), .int p.length] μ
      = .ok (.tup [.str (tx s), .int ((p.length + (s.flatMap escT).length : Nat) + 1)]) μ := by
  have hle := esc_le s
  have hf : Txt.find3 (tx (mp ++ (s.flatMap mskT ++ 34 :: mr))) (tx [34]) (p.length : Int) = ((p.length + (s.flatMap escT).length : Nat) : Int) := by
    rw [tx_find _ _ _ _ (by rw [hp]) (esc_msk s), hp, esc_len]
  have hlt : ¬ ((p.length + (s.flatMap escT).length : Nat) : Int) < 0 := by omega
  have hc : cutS (tx (p ++ (s.flatMap escT ++ 34 :: r))) (some (p.length : Int)) (some ((p.length + (s.flatMap escT).length : Nat) : Int)) = tx (s.flatMap escT) := cut_mid _ _ _ rfl (by omega)
  have hlen : (tx (p ++ (s.flatMap escT ++ 34 :: r))).length ≤ 16777216 := by
    rw [tx_len]
    simp only [List.length_append, List.length_cons]
    omega
  have hq := quoted_ok (k := k) (μ := μ) (esc_sin hs) (by omega : (s.flatMap escT).length ≤ 1000000)
  have hu := unescaped_ok (k := k) (s := s) hμ hl
  have g2 : (2 : Nat) ≤ 16777216 := by decide
  unfold cl at *
  rw [c_read_quoted]
  by_cases h92 : 92 ∈ s.flatMap escT
  · simp only [b_read_quoted, f_read_quoted, bind_ok, then_ok, next_nx, next_rt, next_br, next_ct, finO_rt, finO_nx, runB, runS, evalE, evalEs, evalT, evalO, evalIt, evalR, assignT, startR, List.map_cons, List.map_nil, List.length_cons, List.length_nil, List.replicate_zero, List.replicate_succ, Nat.zero_add, Nat.reduceAdd, Nat.reduceSub, List.cons_append, List.nil_append, List.append_nil, List.set_cons_zero, List.set_cons_succ, List.getElem?_cons_succ, List.getElem?_cons_zero, idxD, seqD, binD, setIxD, cmpD, truD, bifD, isiD, Int.reduceNeg, Bool.not_true, Bool.not_false, ↓reduceIte, Bool.false_eq_true, Bool.true_eq_false, if_true, if_false, List.zip_cons_cons, List.zip_nil_right, List.zip_nil_left, List.foldl_cons, List.foldl_nil, tyf, Bool.or_false, Bool.false_or, Bool.or_true, Bool.true_or, Bool.or_self, tyD, needs_pos trivial, metD, t_8, t_6, hf, hlt, decide_false, slcD, needs_pos hlen, hc, hq, tx_in, h92, decide_true, hu, needs_pos g2]
    rw [fin_same rfl]
  · have e := esc_none h92
    simp only [b_read_quoted, f_read_quoted, bind_ok, then_ok, next_nx, next_rt, next_br, next_ct, finO_rt, finO_nx, runB, runS, evalE, evalEs, evalT, evalO, evalIt, evalR, assignT, startR, List.map_cons, List.map_nil, List.length_cons, List.length_nil, List.replicate_zero, List.replicate_succ, Nat.zero_add, Nat.reduceAdd, Nat.reduceSub, List.cons_append, List.nil_append, List.append_nil, List.set_cons_zero, List.set_cons_succ, List.getElem?_cons_succ, List.getElem?_cons_zero, idxD, seqD, binD, setIxD, cmpD, truD, bifD, isiD, Int.reduceNeg, Bool.not_true, Bool.not_false, ↓reduceIte, Bool.false_eq_true, Bool.true_eq_false, if_true, if_false, List.zip_cons_cons, List.zip_nil_right, List.zip_nil_left, List.foldl_cons, List.foldl_nil, tyf, Bool.or_false, Bool.false_or, Bool.or_true, Bool.true_or, Bool.or_self, tyD, needs_pos trivial, metD, t_8, t_6, hf, hlt, decide_false, slcD, needs_pos hlen, hc, hq, tx_in, h92, decide_true, needs_pos g2]
    rw [fin_same rfl, e]
/-- not the head of a number's rest -/
def endN (r : List Nat) : Prop := ∀ c s, r = c :: s → c < 48 ∨ 57 < c
theorem num_head {n : Nat} (h : 0 < n) : ∃ c s, TL.numL n = c :: s ∧ 49 ≤ c ∧ c ≤ 57 := by
  induction n using Nat.strongRecOn with
  | _ n ih =>
    by_cases h1 : n < 10
    · exact ⟨48 + n, [], TL.numL_lt h1, by omega, by omega⟩
    · obtain ⟨c, s, e, h2⟩ := ih (n / 10) (by omega) (by omega)
      exact ⟨c, s ++ [48 + n % 10], by rw [TL.numL_step (by omega), e]; rfl, h2⟩
/-- the loop over the digits -/
theorem digits_loop {k : Nat} {p cs r : List Nat} {c : Nat} {x0 x1 x3 : Option D} {μ : Mu} (hd : NumText.AllDigits (c :: cs)) (he : endN r) (hl : (c :: cs).length ≤ 20) (ht : p.length + r.length ≤ 10000000) (h0 : x0 = some (.str (tx (p ++ (c :: cs ++ r))))) :
    ∃ ρ' μ', whileLoop (fun ρ μ => evalT (gg k) (.and (.val (.cmp .lt (.var 4) (.bin .add (.var 2) (.glob 0)))) (.val (.chn .le .le (.cst (.str "0")) (.slc (.var 0) (.some (.var 4)) (.some (.bin .add (.var 4) (.cst (.int 1))))) (.cst (.str "9"))))) ρ μ)
      (fun ρ μ => runB (gg k) (.cons (.aug 4 .add (.cst (.int 1))) .nil) ρ μ) 100000 [x0, x1, some (.int p.length), x3, some (.int (p.length + 1))] μ = .nx ρ' μ' ∧ ρ' = [x0, x1, some (.int p.length), x3, some (.int ((p.length + (c :: cs).length : Nat) : Int))] ∧ μ' = μ := by
  subst h0
  have hlen : (tx (p ++ (c :: cs ++ r))).length ≤ 16777216 := by
    rw [tx_len]
    simp only [List.length_append, List.length_cons] at *
    omega
  have W := whl_inv (c := fun ρ μ => evalT (gg k) (.and (.val (.cmp .lt (.var 4) (.bin .add (.var 2) (.glob 0)))) (.val (.chn .le .le (.cst (.str "0")) (.slc (.var 0) (.some (.var 4)) (.some (.bin .add (.var 4) (.cst (.int 1))))) (.cst (.str "9"))))) ρ μ)
      (f := fun ρ μ => runB (gg k) (.cons (.aug 4 .add (.cst (.int 1))) .nil) ρ μ)
      (fun m ρ ν => ∃ a b, c :: cs = a ++ b ∧ b.length = m ∧ 1 ≤ a.length ∧ ρ = [some (.str (tx (p ++ (c :: cs ++ r)))), x1, some (.int p.length), x3, some (.int ((p.length + a.length : Nat) : Int))] ∧ ν = μ) ?_ ?_ (m := cs.length) (n := 100000) (ρ := [some (.str (tx (p ++ (c :: cs ++ r)))), x1, some (.int p.length), x3, some (.int (p.length + 1))]) (μ := μ) ?_ ?_
  · obtain ⟨ρ', μ', e, a, b, h1, h2, h3, h4, h5⟩ := W
    have hb : b = [] := List.length_eq_zero_iff.mp h2
    subst hb
    rw [List.append_nil] at h1
    rw [← h1] at h4
    exact ⟨ρ', μ', e, h4, h5⟩
  · rintro m ρ ν ⟨a, b, h1, h2, h3, rfl, rfl⟩
    cases b with
    | nil => cases h2
    | cons d b =>
      have hdd : 48 ≤ d ∧ d ≤ 57 := hd d (by rw [h1]; simp)
      have hal : a.length < 20 := by
        have := congrArg List.length h1
        simp only [List.length_append, List.length_cons] at this hl
        omega
      have q1 : ((p.length + a.length : Nat) : Int) < (p.length : Int) + 20 := by omega
      have q2 : cutS (tx (p ++ (c :: cs ++ r))) (some ((p.length + a.length : Nat) : Int)) (some (((p.length + a.length : Nat) : Int) + 1)) = tx [d] := by
        rw [h1]
        have := cut_at (p ++ a) d (b ++ r) (i := ((p.length + a.length : Nat) : Int)) (j := ((p.length + a.length : Nat) : Int) + 1) (by simp) (by simp)
        rw [← this]
        simp [List.append_assoc]
      have q3 : ¬ d < 48 := by omega
      have q4 : ¬ 57 < d := by omega
      refine ⟨?_, [some (.str (tx (p ++ (c :: cs ++ r)))), x1, some (.int p.length), x3, some (.int ((p.length + (a ++ [d]).length : Nat) : Int))], ν, ?_, a ++ [d], b, by rw [h1]; simp, by simpa using h2, by simp, rfl, rfl⟩
      all_goals generalize tx (p ++ (c :: cs ++ r)) = T at hlen q2 ⊢
      · simp only [bind_ok, then_ok, next_nx, next_rt, next_br, next_ct, finO_rt, finO_nx, runB, runS, evalE, evalEs, evalT, evalO, evalIt, evalR, assignT, startR, List.map_cons, List.map_nil, List.length_cons, List.length_nil, List.replicate_zero, List.replicate_succ, Nat.zero_add, Nat.reduceAdd, Nat.reduceSub, List.cons_append, List.nil_append, List.append_nil, List.set_cons_zero, List.set_cons_succ, List.getElem?_cons_succ, List.getElem?_cons_zero, idxD, seqD, binD, setIxD, cmpD, truD, bifD, isiD, Int.reduceNeg, Bool.not_true, Bool.not_false, ↓reduceIte, Bool.false_eq_true, Bool.true_eq_false, if_true, if_false, List.zip_cons_cons, List.zip_nil_right, List.zip_nil_left, List.foldl_cons, List.foldl_nil, tyf, Bool.or_false, Bool.false_or, Bool.or_true, Bool.true_or, Bool.or_self, con, q1, decide_true, slcD, needs_pos hlen, q2, t_14, t_16, lt_one, q3, q4, decide_false]
      · simp only [bind_ok, then_ok, next_nx, next_rt, next_br, next_ct, finO_rt, finO_nx, runB, runS, evalE, evalEs, evalT, evalO, evalIt, evalR, assignT, startR, List.map_cons, List.map_nil, List.length_cons, List.length_nil, List.replicate_zero, List.replicate_succ, Nat.zero_add, Nat.reduceAdd, Nat.reduceSub, List.cons_append, List.nil_append, List.append_nil, List.set_cons_zero, List.set_cons_succ, List.getElem?_cons_succ, List.getElem?_cons_zero, idxD, seqD, binD, setIxD, cmpD, truD, bifD, isiD, Int.reduceNeg, Bool.not_true, Bool.not_false, ↓reduceIte, Bool.false_eq_true, Bool.true_eq_false, if_true, if_false, List.zip_cons_cons, List.zip_nil_right, List.zip_nil_left, List.foldl_cons, List.foldl_nil, tyf, Bool.or_false, Bool.false_or, Bool.or_true, Bool.true_or, Bool.or_self]
        have : ((p.length + a.length : Nat) : Int) + 1 = ((p.length + (a ++ [d]).length : Nat) : Int) := by simp; omega
        rw [this]
  · rintro ρ ν ⟨a, b, h1, h2, h3, rfl, rfl⟩
    have hb : b = [] := List.length_eq_zero_iff.mp h2
    subst hb
    rw [List.append_nil] at h1
    by_cases q1 : ((p.length + a.length : Nat) : Int) < (p.length : Int) + 20
    · cases r with
      | nil =>
        have q2 : cutS (tx (p ++ (c :: cs ++ []))) (some ((p.length + a.length : Nat) : Int)) (some (((p.length + a.length : Nat) : Int) + 1)) = tx [] := by
          rw [List.append_nil, h1]
          exact cut_end (p ++ a) (by simp) (by simp)
        generalize tx (p ++ (c :: cs ++ [])) = T at hlen q2 ⊢
        simp only [bind_ok, then_ok, next_nx, next_rt, next_br, next_ct, finO_rt, finO_nx, runB, runS, evalE, evalEs, evalT, evalO, evalIt, evalR, assignT, startR, List.map_cons, List.map_nil, List.length_cons, List.length_nil, List.replicate_zero, List.replicate_succ, Nat.zero_add, Nat.reduceAdd, Nat.reduceSub, List.cons_append, List.nil_append, List.append_nil, List.set_cons_zero, List.set_cons_succ, List.getElem?_cons_succ, List.getElem?_cons_zero, idxD, seqD, binD, setIxD, cmpD, truD, bifD, isiD, Int.reduceNeg, Bool.not_true, Bool.not_false, ↓reduceIte, Bool.false_eq_true, Bool.true_eq_false, if_true, if_false, List.zip_cons_cons, List.zip_nil_right, List.zip_nil_left, List.foldl_cons, List.foldl_nil, tyf, Bool.or_false, Bool.false_or, Bool.or_true, Bool.true_or, Bool.or_self, con, q1, decide_true, slcD, needs_pos hlen, q2, t_14, t_16, lt_none]
      | cons d s =>
        have hdd := he d s rfl
        have q2 : cutS (tx (p ++ (c :: cs ++ d :: s))) (some ((p.length + a.length : Nat) : Int)) (some (((p.length + a.length : Nat) : Int) + 1)) = tx [d] := by
          rw [h1, ← List.append_assoc]
          exact cut_at (p ++ a) d s (by simp) (by simp)
        generalize tx (p ++ (c :: cs ++ d :: s)) = T at hlen q2 ⊢
        by_cases q3 : d < 48
        · simp only [bind_ok, then_ok, next_nx, next_rt, next_br, next_ct, finO_rt, finO_nx, runB, runS, evalE, evalEs, evalT, evalO, evalIt, evalR, assignT, startR, List.map_cons, List.map_nil, List.length_cons, List.length_nil, List.replicate_zero, List.replicate_succ, Nat.zero_add, Nat.reduceAdd, Nat.reduceSub, List.cons_append, List.nil_append, List.append_nil, List.set_cons_zero, List.set_cons_succ, List.getElem?_cons_succ, List.getElem?_cons_zero, idxD, seqD, binD, setIxD, cmpD, truD, bifD, isiD, Int.reduceNeg, Bool.not_true, Bool.not_false, ↓reduceIte, Bool.false_eq_true, Bool.true_eq_false, if_true, if_false, List.zip_cons_cons, List.zip_nil_right, List.zip_nil_left, List.foldl_cons, List.foldl_nil, tyf, Bool.or_false, Bool.false_or, Bool.or_true, Bool.true_or, Bool.or_self, con, q1, decide_true, slcD, needs_pos hlen, q2, t_14, t_16, lt_one, q3]
        · have q4 : 57 < d := by omega
          simp only [bind_ok, then_ok, next_nx, next_rt, next_br, next_ct, finO_rt, finO_nx, runB, runS, evalE, evalEs, evalT, evalO, evalIt, evalR, assignT, startR, List.map_cons, List.map_nil, List.length_cons, List.length_nil, List.replicate_zero, List.replicate_succ, Nat.zero_add, Nat.reduceAdd, Nat.reduceSub, List.cons_append, List.nil_append, List.append_nil, List.set_cons_zero, List.set_cons_succ, List.getElem?_cons_succ, List.getElem?_cons_zero, idxD, seqD, binD, setIxD, cmpD, truD, bifD, isiD, Int.reduceNeg, Bool.not_true, Bool.not_false, ↓reduceIte, Bool.false_eq_true, Bool.true_eq_false, if_true, if_false, List.zip_cons_cons, List.zip_nil_right, List.zip_nil_left, List.foldl_cons, List.foldl_nil, tyf, Bool.or_false, Bool.false_or, Bool.or_true, Bool.true_or, Bool.or_self, con, q1, decide_true, slcD, needs_pos hlen, q2, t_14, t_16, lt_one, q3, q4, decide_false]
    · simp only [bind_ok, then_ok, next_nx, next_rt, next_br, next_ct, finO_rt, finO_nx, runB, runS, evalE, evalEs, evalT, evalO, evalIt, evalR, assignT, startR, List.map_cons, List.map_nil, List.length_cons, List.length_nil, List.replicate_zero, List.replicate_succ, Nat.zero_add, Nat.reduceAdd, Nat.reduceSub, List.cons_append, List.nil_append, List.append_nil, List.set_cons_zero, List.set_cons_succ, List.getElem?_cons_succ, List.getElem?_cons_zero, idxD, seqD, binD, setIxD, cmpD, truD, bifD, isiD, Int.reduceNeg, Bool.not_true, Bool.not_false, ↓reduceIte, Bool.false_eq_true, Bool.true_eq_false, if_true, if_false, List.zip_cons_cons, List.zip_nil_right, List.zip_nil_left, List.foldl_cons, List.foldl_nil, tyf, Bool.or_false, Bool.false_or, Bool.or_true, Bool.true_or, Bool.or_self, con, q1, decide_false]
  · simp only [List.length_cons] at hl
    omega
  · exact ⟨[c], cs, rfl, rfl, by simp, by simp, rfl⟩
theorem read_number_ok {k : Nat} {i : Int} {p r : List Nat} {μ : Mu} (hi : i.natAbs < 10 ^ 20) (he : endN r) (ht : p.length + r.length ≤ 1000000) :
    cl (k + 1) n_read_number [.str (tx (p ++ (intL i ++ r))), .int p.length] μ = .ok (.tup [.int i, .int ((p.length + (intL i).length : Nat) : Int)]) μ := by
  have g2 : (2 : Nat) ≤ 16777216 := by decide
  have eqs : ∀ a b : Nat, a < 0x110000 → b < 0x110000 → (eqOk 64 (.str (tx [a])) = true ∧ eqOk 64 (.str (tx [b])) = true) := fun a b h1 h2 => ⟨by simp only [eqOk, tx_all]; simpa using h1, by simp only [eqOk, tx_all]; simpa using h2⟩
  have eqi : ∀ a b : Int, (eqOk 64 (.int a) = true ∧ eqOk 64 (.int b) = true) := fun _ _ => ⟨rfl, rfl⟩
  unfold cl
  rw [c_read_number]
  have step : runB (gg k) b_read_number (startR f_read_number.N.length [.str (tx (p ++ (intL i ++ r))), .int p.length]) μ = .rt (.tup [.int i, .int ((p.length + (intL i).length : Nat) : Int)]) μ := by
    have back : ∀ l : List Nat, l = intL i → l.length ≤ 640 → intText? (tx l) = some i := fun l h h2 => by
      subst h
      exact int_back i h2
    unfold b_read_number
    cases i with
    | ofNat n =>
      by_cases hn : n = 0
      · subst hn
        have e : intL (Int.ofNat 0) = [48] := TL.numL_lt (by decide)
        rw [e]
        have hlen : (tx (p ++ ([48] ++ r))).length ≤ 16777216 := by
          rw [tx_len]
          simp only [List.length_append, List.length_cons, List.length_nil]
          omega
        have q2 : cutS (tx (p ++ ([48] ++ r))) (some (p.length : Int)) (some ((p.length : Int) + 1)) = tx [48] := cut_at p 48 r rfl rfl
        generalize tx (p ++ ([48] ++ r)) = T at hlen q2 ⊢
        refine run_nx (ρ' := [some (.str T), some (.int p.length), some (.int p.length), none, none]) (μ' := μ) ?_ ?_
        · simp only [f_read_number, bind_ok, then_ok, next_nx, next_rt, next_br, next_ct, finO_rt, finO_nx, runB, runS, evalE, evalEs, evalT, evalO, evalIt, evalR, assignT, startR, List.map_cons, List.map_nil, List.length_cons, List.length_nil, List.replicate_zero, List.replicate_succ, Nat.zero_add, Nat.reduceAdd, Nat.reduceSub, List.cons_append, List.nil_append, List.append_nil, List.set_cons_zero, List.set_cons_succ, List.getElem?_cons_succ, List.getElem?_cons_zero, idxD, seqD, binD, setIxD, cmpD, truD, bifD, isiD, Int.reduceNeg, Bool.not_true, Bool.not_false, ↓reduceIte, Bool.false_eq_true, Bool.true_eq_false, if_true, if_false, List.zip_cons_cons, List.zip_nil_right, List.zip_nil_left, List.foldl_cons, List.foldl_nil, tyf, Bool.or_false, Bool.false_or, Bool.or_true, Bool.true_or, Bool.or_self, slcD, needs_pos hlen, q2, t_13, deref, needs_pos (eqs 48 45 (by decide) (by decide)), eqD, tx_beq, List.cons_beq_cons, Nat.reduceBEq, Bool.false_and]
        refine run_nx (ρ' := [some (.str T), some (.int p.length), some (.int p.length), some (.str (tx [48])), none]) (μ' := μ) ?_ ?_
        · simp only [bind_ok, then_ok, next_nx, next_rt, next_br, next_ct, finO_rt, finO_nx, runB, runS, evalE, evalEs, evalT, evalO, evalIt, evalR, assignT, startR, List.map_cons, List.map_nil, List.length_cons, List.length_nil, List.replicate_zero, List.replicate_succ, Nat.zero_add, Nat.reduceAdd, Nat.reduceSub, List.cons_append, List.nil_append, List.append_nil, List.set_cons_zero, List.set_cons_succ, List.getElem?_cons_succ, List.getElem?_cons_zero, idxD, seqD, binD, setIxD, cmpD, truD, bifD, isiD, Int.reduceNeg, Bool.not_true, Bool.not_false, ↓reduceIte, Bool.false_eq_true, Bool.true_eq_false, if_true, if_false, List.zip_cons_cons, List.zip_nil_right, List.zip_nil_left, List.foldl_cons, List.foldl_nil, tyf, Bool.or_false, Bool.false_or, Bool.or_true, Bool.true_or, Bool.or_self, slcD, needs_pos hlen, q2]
        refine run_rt ?_
        simp only [bind_ok, then_ok, next_nx, next_rt, next_br, next_ct, finO_rt, finO_nx, runB, runS, evalE, evalEs, evalT, evalO, evalIt, evalR, assignT, startR, List.map_cons, List.map_nil, List.length_cons, List.length_nil, List.replicate_zero, List.replicate_succ, Nat.zero_add, Nat.reduceAdd, Nat.reduceSub, List.cons_append, List.nil_append, List.append_nil, List.set_cons_zero, List.set_cons_succ, List.getElem?_cons_succ, List.getElem?_cons_zero, idxD, seqD, binD, setIxD, cmpD, truD, bifD, isiD, Int.reduceNeg, Bool.not_true, Bool.not_false, ↓reduceIte, Bool.false_eq_true, Bool.true_eq_false, if_true, if_false, List.zip_cons_cons, List.zip_nil_right, List.zip_nil_left, List.foldl_cons, List.foldl_nil, tyf, Bool.or_false, Bool.false_or, Bool.or_true, Bool.true_or, Bool.or_self, t_14, deref, needs_pos (eqs 48 48 (by decide) (by decide)), eqD, tx_beq, beq_self_eq_true, needs_pos (eqi _ _), needs_pos g2]
        rfl
      · obtain ⟨c, cs, e, h1, h2⟩ := num_head (Nat.pos_of_ne_zero hn)
        have hd := TL.numL_digits n
        have hl : (TL.numL n).length ≤ 20 := TL.numL_len (by decide) hi
        have e' : intL (Int.ofNat n) = c :: cs := e
        rw [e] at hd hl
        rw [e']
        have bk := back (c :: cs) e'.symm (by omega)
        have hlen : (tx (p ++ (c :: cs ++ r))).length ≤ 16777216 := by
          rw [tx_len]
          simp only [List.length_append, List.length_cons] at *
          omega
        have q2 : cutS (tx (p ++ (c :: cs ++ r))) (some (p.length : Int)) (some ((p.length : Int) + 1)) = tx [c] := cut_at p c (cs ++ r) rfl rfl
        have q3 : cutS (tx (p ++ (c :: cs ++ r))) (some (p.length : Int)) (some ((p.length + (c :: cs).length : Nat) : Int)) = tx (c :: cs) := cut_mid p (c :: cs) r rfl (by omega)
        have b1 : (c == 45) = false := by simp; omega
        have b2 : (c == 48) = false := by simp; omega
        have b3 : ¬ c < 49 := by omega
        have b4 : ¬ 57 < c := by omega
        have b5 : (tx (c :: cs)).length ≤ 640 := by rw [tx_len]; omega
        obtain ⟨ρ', μ', e1, e2, e3⟩ := digits_loop (k := k) (p := p) (x0 := some (.str (tx (p ++ (c :: cs ++ r))))) (x1 := some (.int p.length)) (x3 := some (.str (tx [c]))) (μ := μ) hd he hl (by omega) rfl
        subst e2 e3
        generalize tx (p ++ (c :: cs ++ r)) = T at hlen q2 q3 e1 ⊢
        generalize ((p.length + (c :: cs).length : Nat) : Int) = EN at q3 e1 ⊢
        generalize tx (c :: cs) = U at bk b5 q3
        refine run_nx (ρ' := [some (.str T), some (.int p.length), some (.int p.length), none, none]) (μ' := μ') ?_ ?_
        · simp only [f_read_number, bind_ok, then_ok, next_nx, next_rt, next_br, next_ct, finO_rt, finO_nx, runB, runS, evalE, evalEs, evalT, evalO, evalIt, evalR, assignT, startR, List.map_cons, List.map_nil, List.length_cons, List.length_nil, List.replicate_zero, List.replicate_succ, Nat.zero_add, Nat.reduceAdd, Nat.reduceSub, List.cons_append, List.nil_append, List.append_nil, List.set_cons_zero, List.set_cons_succ, List.getElem?_cons_succ, List.getElem?_cons_zero, idxD, seqD, binD, setIxD, cmpD, truD, bifD, isiD, Int.reduceNeg, Bool.not_true, Bool.not_false, ↓reduceIte, Bool.false_eq_true, Bool.true_eq_false, if_true, if_false, List.zip_cons_cons, List.zip_nil_right, List.zip_nil_left, List.foldl_cons, List.foldl_nil, tyf, Bool.or_false, Bool.false_or, Bool.or_true, Bool.true_or, Bool.or_self, slcD, needs_pos hlen, q2, t_13, deref, needs_pos (eqs c 45 (by omega) (by decide)), eqD, tx_beq, List.cons_beq_cons, b1, Bool.false_and]
        refine run_nx (ρ' := [some (.str T), some (.int p.length), some (.int p.length), some (.str (tx [c])), none]) (μ' := μ') ?_ ?_
        · simp only [bind_ok, then_ok, next_nx, next_rt, next_br, next_ct, finO_rt, finO_nx, runB, runS, evalE, evalEs, evalT, evalO, evalIt, evalR, assignT, startR, List.map_cons, List.map_nil, List.length_cons, List.length_nil, List.replicate_zero, List.replicate_succ, Nat.zero_add, Nat.reduceAdd, Nat.reduceSub, List.cons_append, List.nil_append, List.append_nil, List.set_cons_zero, List.set_cons_succ, List.getElem?_cons_succ, List.getElem?_cons_zero, idxD, seqD, binD, setIxD, cmpD, truD, bifD, isiD, Int.reduceNeg, Bool.not_true, Bool.not_false, ↓reduceIte, Bool.false_eq_true, Bool.true_eq_false, if_true, if_false, List.zip_cons_cons, List.zip_nil_right, List.zip_nil_left, List.foldl_cons, List.foldl_nil, tyf, Bool.or_false, Bool.false_or, Bool.or_true, Bool.true_or, Bool.or_self, slcD, needs_pos hlen, q2]
        refine run_nx (ρ' := [some (.str T), some (.int p.length), some (.int p.length), some (.str (tx [c])), none]) (μ' := μ') ?_ ?_
        · simp only [bind_ok, then_ok, next_nx, next_rt, next_br, next_ct, finO_rt, finO_nx, runB, runS, evalE, evalEs, evalT, evalO, evalIt, evalR, assignT, startR, List.map_cons, List.map_nil, List.length_cons, List.length_nil, List.replicate_zero, List.replicate_succ, Nat.zero_add, Nat.reduceAdd, Nat.reduceSub, List.cons_append, List.nil_append, List.append_nil, List.set_cons_zero, List.set_cons_succ, List.getElem?_cons_succ, List.getElem?_cons_zero, idxD, seqD, binD, setIxD, cmpD, truD, bifD, isiD, Int.reduceNeg, Bool.not_true, Bool.not_false, ↓reduceIte, Bool.false_eq_true, Bool.true_eq_false, if_true, if_false, List.zip_cons_cons, List.zip_nil_right, List.zip_nil_left, List.foldl_cons, List.foldl_nil, tyf, Bool.or_false, Bool.false_or, Bool.or_true, Bool.true_or, Bool.or_self, t_14, deref, needs_pos (eqs c 48 (by omega) (by decide)), eqD, tx_beq, List.cons_beq_cons, b2, Bool.false_and]
        refine run_nx (ρ' := [some (.str T), some (.int p.length), some (.int p.length), some (.str (tx [c])), none]) (μ' := μ') ?_ ?_
        · simp only [bind_ok, then_ok, next_nx, next_rt, next_br, next_ct, finO_rt, finO_nx, runB, runS, evalE, evalEs, evalT, evalO, evalIt, evalR, assignT, startR, List.map_cons, List.map_nil, List.length_cons, List.length_nil, List.replicate_zero, List.replicate_succ, Nat.zero_add, Nat.reduceAdd, Nat.reduceSub, List.cons_append, List.nil_append, List.append_nil, List.set_cons_zero, List.set_cons_succ, List.getElem?_cons_succ, List.getElem?_cons_zero, idxD, seqD, binD, setIxD, cmpD, truD, bifD, isiD, Int.reduceNeg, Bool.not_true, Bool.not_false, ↓reduceIte, Bool.false_eq_true, Bool.true_eq_false, if_true, if_false, List.zip_cons_cons, List.zip_nil_right, List.zip_nil_left, List.foldl_cons, List.foldl_nil, tyf, Bool.or_false, Bool.false_or, Bool.or_true, Bool.true_or, Bool.or_self, t_15, t_16, lt_one, b3, b4, decide_false]
        refine run_nx (ρ' := [some (.str T), some (.int p.length), some (.int p.length), some (.str (tx [c])), some (.int (p.length + 1))]) (μ' := μ') ?_ ?_
        · simp only [bind_ok, then_ok, next_nx, next_rt, next_br, next_ct, finO_rt, finO_nx, runB, runS, evalE, evalEs, evalT, evalO, evalIt, evalR, assignT, startR, List.map_cons, List.map_nil, List.length_cons, List.length_nil, List.replicate_zero, List.replicate_succ, Nat.zero_add, Nat.reduceAdd, Nat.reduceSub, List.cons_append, List.nil_append, List.append_nil, List.set_cons_zero, List.set_cons_succ, List.getElem?_cons_succ, List.getElem?_cons_zero, idxD, seqD, binD, setIxD, cmpD, truD, bifD, isiD, Int.reduceNeg, Bool.not_true, Bool.not_false, ↓reduceIte, Bool.false_eq_true, Bool.true_eq_false, if_true, if_false, List.zip_cons_cons, List.zip_nil_right, List.zip_nil_left, List.foldl_cons, List.foldl_nil, tyf, Bool.or_false, Bool.false_or, Bool.or_true, Bool.true_or, Bool.or_self]
        refine run_nx (ρ' := [some (.str T), some (.int p.length), some (.int p.length), some (.str (tx [c])), some (.int EN)]) (μ' := μ') ?_ ?_
        · rw [runS]
          exact e1
        refine run_rt ?_
        simp only [bind_ok, then_ok, next_nx, next_rt, next_br, next_ct, finO_rt, finO_nx, runB, runS, evalE, evalEs, evalT, evalO, evalIt, evalR, assignT, startR, List.map_cons, List.map_nil, List.length_cons, List.length_nil, List.replicate_zero, List.replicate_succ, Nat.zero_add, Nat.reduceAdd, Nat.reduceSub, List.cons_append, List.nil_append, List.append_nil, List.set_cons_zero, List.set_cons_succ, List.getElem?_cons_succ, List.getElem?_cons_zero, idxD, seqD, binD, setIxD, cmpD, truD, bifD, isiD, Int.reduceNeg, Bool.not_true, Bool.not_false, ↓reduceIte, Bool.false_eq_true, Bool.true_eq_false, if_true, if_false, List.zip_cons_cons, List.zip_nil_right, List.zip_nil_left, List.foldl_cons, List.foldl_nil, tyf, Bool.or_false, Bool.false_or, Bool.or_true, Bool.true_or, Bool.or_self, slcD, needs_pos hlen, q3, bk, needs_pos b5, needs_pos g2]
    | negSucc n =>
      obtain ⟨c, cs, e, h1, h2⟩ := num_head (Nat.succ_pos n)
      have hd := TL.numL_digits (n + 1)
      have hl : (TL.numL (n + 1)).length ≤ 20 := TL.numL_len (by decide) hi
      have e' : intL (Int.negSucc n) = 45 :: c :: cs := by
        show 45 :: TL.numL (n + 1) = _
        rw [e]
      rw [e] at hd hl
      rw [e']
      have bk := back (45 :: c :: cs) e'.symm (by simp only [List.length_cons] at *; omega)
      have tt : p ++ (45 :: c :: cs ++ r) = (p ++ [45]) ++ (c :: cs ++ r) := by simp
      have hp1 : ((p ++ [45]).length : Int) = (p.length : Int) + 1 := by simp
      have hlen : (tx (p ++ (45 :: c :: cs ++ r))).length ≤ 16777216 := by
        rw [tx_len]
        simp only [List.length_append, List.length_cons] at *
        omega
      have q2 : cutS (tx (p ++ (45 :: c :: cs ++ r))) (some (p.length : Int)) (some ((p.length : Int) + 1)) = tx [45] := cut_at p 45 (c :: cs ++ r) rfl rfl
      have q2' : cutS (tx (p ++ (45 :: c :: cs ++ r))) (some ((p.length : Int) + 1)) (some ((p.length : Int) + 1 + 1)) = tx [c] := by
        rw [tt]
        exact cut_at (p ++ [45]) c (cs ++ r) hp1.symm (by rw [hp1])
      have q3 : cutS (tx (p ++ (45 :: c :: cs ++ r))) (some (p.length : Int)) (some (((p ++ [45]).length + (c :: cs).length : Nat) : Int)) = tx (45 :: c :: cs) := cut_mid p (45 :: c :: cs) r rfl (by simp; omega)
      have b2 : (c == 48) = false := by simp; omega
      have b3 : ¬ c < 49 := by omega
      have b4 : ¬ 57 < c := by omega
      have b5 : (tx (45 :: c :: cs)).length ≤ 640 := by rw [tx_len]; simp only [List.length_cons] at *; omega
      obtain ⟨ρ', μ', e1, e2, e3⟩ := digits_loop (k := k) (p := p ++ [45]) (x0 := some (.str (tx ((p ++ [45]) ++ (c :: cs ++ r))))) (x1 := some (.int p.length)) (x3 := some (.str (tx [c]))) (μ := μ) hd he hl (by simp only [List.length_append, List.length_cons, List.length_nil] at *; omega) rfl
      subst e2 e3
      rw [← tt, hp1] at e1
      have hen : ((p.length + (45 :: c :: cs).length : Nat) : Int) = (((p ++ [45]).length + (c :: cs).length : Nat) : Int) := by simp; omega
      rw [hen]
      generalize tx (p ++ (45 :: c :: cs ++ r)) = T at hlen q2 q2' q3 e1 ⊢
      generalize (((p ++ [45]).length + (c :: cs).length : Nat) : Int) = EN at q3 e1 ⊢
      generalize tx (45 :: c :: cs) = U at bk b5 q3
      refine run_nx (ρ' := [some (.str T), some (.int p.length), some (.int (p.length + 1)), none, none]) (μ' := μ') ?_ ?_
      · simp only [f_read_number, bind_ok, then_ok, next_nx, next_rt, next_br, next_ct, finO_rt, finO_nx, runB, runS, evalE, evalEs, evalT, evalO, evalIt, evalR, assignT, startR, List.map_cons, List.map_nil, List.length_cons, List.length_nil, List.replicate_zero, List.replicate_succ, Nat.zero_add, Nat.reduceAdd, Nat.reduceSub, List.cons_append, List.nil_append, List.append_nil, List.set_cons_zero, List.set_cons_succ, List.getElem?_cons_succ, List.getElem?_cons_zero, idxD, seqD, binD, setIxD, cmpD, truD, bifD, isiD, Int.reduceNeg, Bool.not_true, Bool.not_false, ↓reduceIte, Bool.false_eq_true, Bool.true_eq_false, if_true, if_false, List.zip_cons_cons, List.zip_nil_right, List.zip_nil_left, List.foldl_cons, List.foldl_nil, tyf, Bool.or_false, Bool.false_or, Bool.or_true, Bool.true_or, Bool.or_self, slcD, needs_pos hlen, q2, t_13, deref, needs_pos (eqs 45 45 (by omega) (by decide)), eqD, beq_self_eq_true]
      refine run_nx (ρ' := [some (.str T), some (.int p.length), some (.int (p.length + 1)), some (.str (tx [c])), none]) (μ' := μ') ?_ ?_
      · simp only [bind_ok, then_ok, next_nx, next_rt, next_br, next_ct, finO_rt, finO_nx, runB, runS, evalE, evalEs, evalT, evalO, evalIt, evalR, assignT, startR, List.map_cons, List.map_nil, List.length_cons, List.length_nil, List.replicate_zero, List.replicate_succ, Nat.zero_add, Nat.reduceAdd, Nat.reduceSub, List.cons_append, List.nil_append, List.append_nil, List.set_cons_zero, List.set_cons_succ, List.getElem?_cons_succ, List.getElem?_cons_zero, idxD, seqD, binD, setIxD, cmpD, truD, bifD, isiD, Int.reduceNeg, Bool.not_true, Bool.not_false, ↓reduceIte, Bool.false_eq_true, Bool.true_eq_false, if_true, if_false, List.zip_cons_cons, List.zip_nil_right, List.zip_nil_left, List.foldl_cons, List.foldl_nil, tyf, Bool.or_false, Bool.false_or, Bool.or_true, Bool.true_or, Bool.or_self, slcD, needs_pos hlen, q2']
      refine run_nx (ρ' := [some (.str T), some (.int p.length), some (.int (p.length + 1)), some (.str (tx [c])), none]) (μ' := μ') ?_ ?_
      · simp only [bind_ok, then_ok, next_nx, next_rt, next_br, next_ct, finO_rt, finO_nx, runB, runS, evalE, evalEs, evalT, evalO, evalIt, evalR, assignT, startR, List.map_cons, List.map_nil, List.length_cons, List.length_nil, List.replicate_zero, List.replicate_succ, Nat.zero_add, Nat.reduceAdd, Nat.reduceSub, List.cons_append, List.nil_append, List.append_nil, List.set_cons_zero, List.set_cons_succ, List.getElem?_cons_succ, List.getElem?_cons_zero, idxD, seqD, binD, setIxD, cmpD, truD, bifD, isiD, Int.reduceNeg, Bool.not_true, Bool.not_false, ↓reduceIte, Bool.false_eq_true, Bool.true_eq_false, if_true, if_false, List.zip_cons_cons, List.zip_nil_right, List.zip_nil_left, List.foldl_cons, List.foldl_nil, tyf, Bool.or_false, Bool.false_or, Bool.or_true, Bool.true_or, Bool.or_self, t_14, deref, needs_pos (eqs c 48 (by omega) (by decide)), eqD, tx_beq, List.cons_beq_cons, b2, Bool.false_and]
      refine run_nx (ρ' := [some (.str T), some (.int p.length), some (.int (p.length + 1)), some (.str (tx [c])), none]) (μ' := μ') ?_ ?_
      · simp only [bind_ok, then_ok, next_nx, next_rt, next_br, next_ct, finO_rt, finO_nx, runB, runS, evalE, evalEs, evalT, evalO, evalIt, evalR, assignT, startR, List.map_cons, List.map_nil, List.length_cons, List.length_nil, List.replicate_zero, List.replicate_succ, Nat.zero_add, Nat.reduceAdd, Nat.reduceSub, List.cons_append, List.nil_append, List.append_nil, List.set_cons_zero, List.set_cons_succ, List.getElem?_cons_succ, List.getElem?_cons_zero, idxD, seqD, binD, setIxD, cmpD, truD, bifD, isiD, Int.reduceNeg, Bool.not_true, Bool.not_false, ↓reduceIte, Bool.false_eq_true, Bool.true_eq_false, if_true, if_false, List.zip_cons_cons, List.zip_nil_right, List.zip_nil_left, List.foldl_cons, List.foldl_nil, tyf, Bool.or_false, Bool.false_or, Bool.or_true, Bool.true_or, Bool.or_self, t_15, t_16, lt_one, b3, b4, decide_false]
      refine run_nx (ρ' := [some (.str T), some (.int p.length), some (.int (p.length + 1)), some (.str (tx [c])), some (.int (p.length + 1 + 1))]) (μ' := μ') ?_ ?_
      · simp only [bind_ok, then_ok, next_nx, next_rt, next_br, next_ct, finO_rt, finO_nx, runB, runS, evalE, evalEs, evalT, evalO, evalIt, evalR, assignT, startR, List.map_cons, List.map_nil, List.length_cons, List.length_nil, List.replicate_zero, List.replicate_succ, Nat.zero_add, Nat.reduceAdd, Nat.reduceSub, List.cons_append, List.nil_append, List.append_nil, List.set_cons_zero, List.set_cons_succ, List.getElem?_cons_succ, List.getElem?_cons_zero, idxD, seqD, binD, setIxD, cmpD, truD, bifD, isiD, Int.reduceNeg, Bool.not_true, Bool.not_false, ↓reduceIte, Bool.false_eq_true, Bool.true_eq_false, if_true, if_false, List.zip_cons_cons, List.zip_nil_right, List.zip_nil_left, List.foldl_cons, List.foldl_nil, tyf, Bool.or_false, Bool.false_or, Bool.or_true, Bool.true_or, Bool.or_self]
      refine run_nx (ρ' := [some (.str T), some (.int p.length), some (.int (p.length + 1)), some (.str (tx [c])), some (.int EN)]) (μ' := μ') ?_ ?_
      · rw [runS]
        exact e1
      refine run_rt ?_
      simp only [bind_ok, then_ok, next_nx, next_rt, next_br, next_ct, finO_rt, finO_nx, runB, runS, evalE, evalEs, evalT, evalO, evalIt, evalR, assignT, startR, List.map_cons, List.map_nil, List.length_cons, List.length_nil, List.replicate_zero, List.replicate_succ, Nat.zero_add, Nat.reduceAdd, Nat.reduceSub, List.cons_append, List.nil_append, List.append_nil, List.set_cons_zero, List.set_cons_succ, List.getElem?_cons_succ, List.getElem?_cons_zero, idxD, seqD, binD, setIxD, cmpD, truD, bifD, isiD, Int.reduceNeg, Bool.not_true, Bool.not_false, ↓reduceIte, Bool.false_eq_true, Bool.true_eq_false, if_true, if_false, List.zip_cons_cons, List.zip_nil_right, List.zip_nil_left, List.foldl_cons, List.foldl_nil, tyf, Bool.or_false, Bool.false_or, Bool.or_true, Bool.true_or, Bool.or_self, slcD, needs_pos hlen, q3, bk, needs_pos b5, needs_pos g2]
  rw [step, finO_rt, fin_same rfl]
end PyI.K30
namespace PyI.K30
open PySem L2
theorem eqs {a b : Nat} (h1 : a < 0x110000) (h2 : b < 0x110000) : eqOk 64 (.str (tx [a])) = true ∧ eqOk 64 (.str (tx [b])) = true :=
  ⟨by simp only [eqOk, tx_all]; simpa using h1, by simp only [eqOk, tx_all]; simpa using h2⟩
theorem look (c : Nat) : (dic 0).lookup (tx [c]) = if c = 84 then some (.bl true) else if c = 70 then some (.bl false) else if c = 78 then some .non else none := by
  unfold dic
  simp only [List.lookup, t_3, t_4, t_5, tx_beq, List.cons_beq_cons, beq_self_eq_true, Bool.and_true]
  by_cases h1 : c = 84
  · subst h1; rfl
  rw [if_neg h1, show (c == 84) = false from by simp [h1]]
  by_cases h2 : c = 70
  · subst h2; rfl
  rw [if_neg h2, show (c == 70) = false from by simp [h2]]
  by_cases h3 : c = 78
  · subst h3; rfl
  rw [if_neg h3, show (c == 78) = false from by simp [h3]]
/-- a value is read where its text stands -/
def RV (k : Nat) (d : D) : Prop := ∀ (T Mk : Str) (p mp r mr : List Nat) (μ : Mu) (dp : Nat), T = tx (p ++ (plainL d ++ r)) → Mk = tx (mp ++ (maskL d ++ mr)) → PureM μ → mp.length = p.length → endN r →
  p.length + (plainL d).length + r.length ≤ 40000 → dp + dep d ≤ 60 → cl k n_read_value [.str T, .str Mk, .int p.length, .int dp] μ = .ok (.tup [d, .int ((p.length + (plainL d).length : Nat) : Int)]) μ
def wb : B := (.cons (.set (.tp [5, 2]) (.call 3 (.cons (.var 0) (.cons (.var 1) (.cons (.var 2) (.cons (.bin .add (.var 3) (.cst (.int 1))) .nil))))))
    (.cons (.expr (.met .append (.var 4) (.cons (.var 5) .nil)))
    (.cons (.set (.nm 6) (.slc (.var 0) (.some (.var 2)) (.some (.bin .add (.var 2) (.cst (.int 1))))))
    (.cons (.ifs (.val (.cmp .eq (.var 6) (.cst (.str ")")))) (.cons (.ret (.tup (.cons (.bif .tuple (.cons (.var 4) .nil)) (.cons (.bin .add (.var 2) (.cst (.int 1))) .nil))))
    .nil) .nil)
    (.cons (.ifs (.val (.cmp .ne (.var 6) (.cst (.str " ")))) (.cons .bad
    .nil) .nil)
    (.cons (.aug 2 .add (.cst (.int 1)))
    .nil))))))
theorem members_loop {k : Nat} {T Mk : Str} {μ : Mu} {dp : Nat} (hμ : PureM μ) : ∀ (l : List D) (n : Nat) (done : List D) (p mp r mr : List Nat) (o5 o6 : Option D), (∀ d ∈ l, RV k d) → l ≠ [] → okVs l = true → pureDs done = true → dp + 1 + deps l ≤ 60 →
    T = tx (p ++ (plainLs l ++ 41 :: r)) → Mk = tx (mp ++ (maskLs l ++ 41 :: mr)) → mp.length = p.length → p.length + (plainLs l).length + 1 + r.length ≤ 40000 → done.length + l.length ≤ 100000 → l.length < n →
    whileLoop (fun ρ μ => evalT (gg k) (.val (.cst (.bl true))) ρ μ) (fun ρ μ => runB (gg k) wb ρ μ) n [some (.str T), some (.str Mk), some (.int p.length), some (.int dp), some (.ref μ.length), o5, o6] (μ ++ [.lst done])
      = .rt (.tup [.tup (done ++ l), .int ((p.length + (plainLs l).length : Nat) + 1)]) (μ ++ [.lst (done ++ l)])
  | [], _, _, _, _, _, _, _, _, _, h, _, _, _, _, _, _, _, _, _ => absurd rfl h
  | _ :: _, 0, _, _, _, _, _, _, _, _, _, _, _, _, _, _, _, _, _, h => absurd h (Nat.not_lt_zero _)
  | [d], n + 1, done, p, mp, r, mr, o5, o6, hr, _, ho, hp, hdp, hT, hM, hpl, ht, hdl, _ => by
    have g2 : (2 : Nat) ≤ 16777216 := by decide
    have ho' : okV d = true := by simpa only [okVs, Bool.and_true] using ho
    have hdp' : ((dp + 1 : Nat) : Nat) + dep d ≤ 60 := by
      simp only [deps] at hdp
      omega
    simp only [plainLs] at ht hT ⊢
    have c := hr d (by simp) T Mk p mp (41 :: r) (41 :: mr) (μ ++ [.lst done]) (dp + 1) hT hM (hμ.snoc hp) hpl (fun c s e => by cases e; exact .inl (by decide)) (by simp only [List.length_cons]; omega) hdp'
    have hl : T.length ≤ 16777216 := by
      rw [hT, tx_len]
      simp only [List.length_append, List.length_cons]
      omega
    have q2 : cutS T (some ((p.length + (plainL d).length : Nat) : Int)) (some (((p.length + (plainL d).length : Nat) : Int) + 1)) = tx [41] := by
      rw [hT, ← List.append_assoc]
      exact cut_at (p ++ plainL d) 41 r (by simp) (by simp)
    have q3 : done.length < 16777216 := by simp only [List.length_cons, List.length_nil] at hdl; omega
    have cast : ((dp + 1 : Nat) : Int) = (dp : Int) + 1 := by omega
    rw [cast] at c
    have body : runB (gg k) wb [some (.str T), some (.str Mk), some (.int p.length), some (.int dp), some (.ref μ.length), o5, o6] (μ ++ [.lst done])
        = .rt (.tup [.tup (done ++ [d]), .int ((p.length + (plainL d).length : Nat) + 1)]) (μ ++ [.lst (done ++ [d])]) := by
      unfold wb
      clear hT
      generalize ((p.length + (plainL d).length : Nat) : Int) = EN at c q2 ⊢
      unfold cl at c
      refine run_nx (ρ' := [some (.str T), some (.str Mk), some (.int EN), some (.int dp), some (.ref μ.length), some d, o6]) (μ' := μ ++ [.lst done]) ?_ ?_
      · simp only [bind_ok, then_ok, next_nx, next_rt, next_br, next_ct, finO_rt, finO_nx, runB, runS, evalE, evalEs, evalT, evalO, evalIt, evalR, assignT, startR, List.map_cons, List.map_nil, List.length_cons, List.length_nil, List.replicate_zero, List.replicate_succ, Nat.zero_add, Nat.reduceAdd, Nat.reduceSub, List.cons_append, List.nil_append, List.append_nil, List.set_cons_zero, List.set_cons_succ, List.getElem?_cons_succ, List.getElem?_cons_zero, idxD, seqD, binD, setIxD, cmpD, truD, bifD, isiD, Int.reduceNeg, Bool.not_true, Bool.not_false, ↓reduceIte, Bool.false_eq_true, Bool.true_eq_false, if_true, if_false, List.zip_cons_cons, List.zip_nil_right, List.zip_nil_left, List.foldl_cons, List.foldl_nil, tyf, Bool.or_false, Bool.false_or, Bool.or_true, Bool.true_or, Bool.or_self, c]
      refine run_nx (ρ' := [some (.str T), some (.str Mk), some (.int EN), some (.int dp), some (.ref μ.length), some d, o6]) (μ' := μ ++ [.lst (done ++ [d])]) ?_ ?_
      · simp only [bind_ok, then_ok, next_nx, next_rt, next_br, next_ct, finO_rt, finO_nx, runB, runS, evalE, evalEs, evalT, evalO, evalIt, evalR, assignT, startR, List.map_cons, List.map_nil, List.length_cons, List.length_nil, List.replicate_zero, List.replicate_succ, Nat.zero_add, Nat.reduceAdd, Nat.reduceSub, List.cons_append, List.nil_append, List.append_nil, List.set_cons_zero, List.set_cons_succ, List.getElem?_cons_succ, List.getElem?_cons_zero, idxD, seqD, binD, setIxD, cmpD, truD, bifD, isiD, Int.reduceNeg, Bool.not_true, Bool.not_false, ↓reduceIte, Bool.false_eq_true, Bool.true_eq_false, if_true, if_false, List.zip_cons_cons, List.zip_nil_right, List.zip_nil_left, List.foldl_cons, List.foldl_nil, tyf, Bool.or_false, Bool.false_or, Bool.or_true, Bool.true_or, Bool.or_self, tyD, snoc_get, needs_pos trivial, metD, needs_pos q3, snoc_set]
      refine run_nx (ρ' := [some (.str T), some (.str Mk), some (.int EN), some (.int dp), some (.ref μ.length), some d, some (.str (tx [41]))]) (μ' := μ ++ [.lst (done ++ [d])]) ?_ ?_
      · simp only [bind_ok, then_ok, next_nx, next_rt, next_br, next_ct, finO_rt, finO_nx, runB, runS, evalE, evalEs, evalT, evalO, evalIt, evalR, assignT, startR, List.map_cons, List.map_nil, List.length_cons, List.length_nil, List.replicate_zero, List.replicate_succ, Nat.zero_add, Nat.reduceAdd, Nat.reduceSub, List.cons_append, List.nil_append, List.append_nil, List.set_cons_zero, List.set_cons_succ, List.getElem?_cons_succ, List.getElem?_cons_zero, idxD, seqD, binD, setIxD, cmpD, truD, bifD, isiD, Int.reduceNeg, Bool.not_true, Bool.not_false, ↓reduceIte, Bool.false_eq_true, Bool.true_eq_false, if_true, if_false, List.zip_cons_cons, List.zip_nil_right, List.zip_nil_left, List.foldl_cons, List.foldl_nil, tyf, Bool.or_false, Bool.false_or, Bool.or_true, Bool.true_or, Bool.or_self, slcD, needs_pos hl, q2]
      refine run_rt ?_
      simp only [bind_ok, then_ok, next_nx, next_rt, next_br, next_ct, finO_rt, finO_nx, runB, runS, evalE, evalEs, evalT, evalO, evalIt, evalR, assignT, startR, List.map_cons, List.map_nil, List.length_cons, List.length_nil, List.replicate_zero, List.replicate_succ, Nat.zero_add, Nat.reduceAdd, Nat.reduceSub, List.cons_append, List.nil_append, List.append_nil, List.set_cons_zero, List.set_cons_succ, List.getElem?_cons_succ, List.getElem?_cons_zero, idxD, seqD, binD, setIxD, cmpD, truD, bifD, isiD, Int.reduceNeg, Bool.not_true, Bool.not_false, ↓reduceIte, Bool.false_eq_true, Bool.true_eq_false, if_true, if_false, List.zip_cons_cons, List.zip_nil_right, List.zip_nil_left, List.foldl_cons, List.foldl_nil, tyf, Bool.or_false, Bool.false_or, Bool.or_true, Bool.true_or, Bool.or_self, t_2, deref, needs_pos (eqs (a := 41) (b := 41) (by decide) (by decide)), eqD, tx_beq, beq_self_eq_true, snoc_get, needs_pos g2]
    unfold whileLoop
    simp only [evalT, evalE, bind_ok, truD, then_ok, if_true, body]
  | d :: e :: l, n + 1, done, p, mp, r, mr, o5, o6, hr, _, ho, hp, hdp, hT, hM, hpl, ht, hdl, hn => by
    simp only [List.length_cons] at hdl
    have g2 : (2 : Nat) ≤ 16777216 := by decide
    have ho' : okV d = true ∧ okVs (e :: l) = true := by simpa only [okVs, Bool.and_eq_true] using ho
    have hdp' : ((dp + 1 : Nat) : Nat) + dep d ≤ 60 ∧ dp + 1 + deps (e :: l) ≤ 60 := by
      simp only [deps] at hdp ⊢
      omega
    have eP : plainLs (d :: e :: l) = plainL d ++ (32 :: plainLs (e :: l)) := by rw [plainLs]
    have eM : maskLs (d :: e :: l) = maskL d ++ (32 :: maskLs (e :: l)) := by rw [maskLs]
    rw [eP] at hT ht ⊢
    rw [eM] at hM
    have hT1 : T = tx (p ++ (plainL d ++ (32 :: (plainLs (e :: l) ++ 41 :: r)))) := by rw [hT]; simp
    have hM1 : Mk = tx (mp ++ (maskL d ++ (32 :: (maskLs (e :: l) ++ 41 :: mr)))) := by rw [hM]; simp
    have hT2 : T = tx ((p ++ (plainL d ++ [32])) ++ (plainLs (e :: l) ++ 41 :: r)) := by rw [hT]; simp
    have hM2 : Mk = tx ((mp ++ (maskL d ++ [32])) ++ (maskLs (e :: l) ++ 41 :: mr)) := by rw [hM]; simp
    simp only [List.length_append, List.length_cons] at ht
    have c := hr d (by simp) T Mk p mp _ _ (μ ++ [.lst done]) (dp + 1) hT1 hM1 (hμ.snoc hp) hpl (fun c s e => by cases e; exact .inl (by decide)) (by simp only [List.length_append, List.length_cons]; omega) hdp'.1
    have hl : T.length ≤ 16777216 := by
      rw [hT1, tx_len]
      simp only [List.length_append, List.length_cons]
      omega
    have q2 : cutS T (some ((p.length + (plainL d).length : Nat) : Int)) (some (((p.length + (plainL d).length : Nat) : Int) + 1)) = tx [32] := by
      rw [hT1, ← List.append_assoc]
      exact cut_at (p ++ plainL d) 32 _ (by simp) (by simp)
    have q3 : done.length < 16777216 := by omega
    have cast : ((dp + 1 : Nat) : Int) = (dp : Int) + 1 := by omega
    rw [cast] at c
    have body : runB (gg k) wb [some (.str T), some (.str Mk), some (.int p.length), some (.int dp), some (.ref μ.length), o5, o6] (μ ++ [.lst done])
        = .nx [some (.str T), some (.str Mk), some (.int (((p.length + (plainL d).length : Nat) : Int) + 1)), some (.int dp), some (.ref μ.length), some d, some (.str (tx [32]))] (μ ++ [.lst (done ++ [d])]) := by
      unfold wb
      clear hT hT1 hT2
      generalize ((p.length + (plainL d).length : Nat) : Int) = EN at c q2 ⊢
      unfold cl at c
      refine run_nx (ρ' := [some (.str T), some (.str Mk), some (.int EN), some (.int dp), some (.ref μ.length), some d, o6]) (μ' := μ ++ [.lst done]) ?_ ?_
      · simp only [bind_ok, then_ok, next_nx, next_rt, next_br, next_ct, finO_rt, finO_nx, runB, runS, evalE, evalEs, evalT, evalO, evalIt, evalR, assignT, startR, List.map_cons, List.map_nil, List.length_cons, List.length_nil, List.replicate_zero, List.replicate_succ, Nat.zero_add, Nat.reduceAdd, Nat.reduceSub, List.cons_append, List.nil_append, List.append_nil, List.set_cons_zero, List.set_cons_succ, List.getElem?_cons_succ, List.getElem?_cons_zero, idxD, seqD, binD, setIxD, cmpD, truD, bifD, isiD, Int.reduceNeg, Bool.not_true, Bool.not_false, ↓reduceIte, Bool.false_eq_true, Bool.true_eq_false, if_true, if_false, List.zip_cons_cons, List.zip_nil_right, List.zip_nil_left, List.foldl_cons, List.foldl_nil, tyf, Bool.or_false, Bool.false_or, Bool.or_true, Bool.true_or, Bool.or_self, c]
      refine run_nx (ρ' := [some (.str T), some (.str Mk), some (.int EN), some (.int dp), some (.ref μ.length), some d, o6]) (μ' := μ ++ [.lst (done ++ [d])]) ?_ ?_
      · simp only [bind_ok, then_ok, next_nx, next_rt, next_br, next_ct, finO_rt, finO_nx, runB, runS, evalE, evalEs, evalT, evalO, evalIt, evalR, assignT, startR, List.map_cons, List.map_nil, List.length_cons, List.length_nil, List.replicate_zero, List.replicate_succ, Nat.zero_add, Nat.reduceAdd, Nat.reduceSub, List.cons_append, List.nil_append, List.append_nil, List.set_cons_zero, List.set_cons_succ, List.getElem?_cons_succ, List.getElem?_cons_zero, idxD, seqD, binD, setIxD, cmpD, truD, bifD, isiD, Int.reduceNeg, Bool.not_true, Bool.not_false, ↓reduceIte, Bool.false_eq_true, Bool.true_eq_false, if_true, if_false, List.zip_cons_cons, List.zip_nil_right, List.zip_nil_left, List.foldl_cons, List.foldl_nil, tyf, Bool.or_false, Bool.false_or, Bool.or_true, Bool.true_or, Bool.or_self, tyD, snoc_get, needs_pos trivial, metD, needs_pos q3, snoc_set]
      refine run_nx (ρ' := [some (.str T), some (.str Mk), some (.int EN), some (.int dp), some (.ref μ.length), some d, some (.str (tx [32]))]) (μ' := μ ++ [.lst (done ++ [d])]) ?_ ?_
      · simp only [bind_ok, then_ok, next_nx, next_rt, next_br, next_ct, finO_rt, finO_nx, runB, runS, evalE, evalEs, evalT, evalO, evalIt, evalR, assignT, startR, List.map_cons, List.map_nil, List.length_cons, List.length_nil, List.replicate_zero, List.replicate_succ, Nat.zero_add, Nat.reduceAdd, Nat.reduceSub, List.cons_append, List.nil_append, List.append_nil, List.set_cons_zero, List.set_cons_succ, List.getElem?_cons_succ, List.getElem?_cons_zero, idxD, seqD, binD, setIxD, cmpD, truD, bifD, isiD, Int.reduceNeg, Bool.not_true, Bool.not_false, ↓reduceIte, Bool.false_eq_true, Bool.true_eq_false, if_true, if_false, List.zip_cons_cons, List.zip_nil_right, List.zip_nil_left, List.foldl_cons, List.foldl_nil, tyf, Bool.or_false, Bool.false_or, Bool.or_true, Bool.true_or, Bool.or_self, slcD, needs_pos hl, q2]
      refine run_nx (ρ' := [some (.str T), some (.str Mk), some (.int EN), some (.int dp), some (.ref μ.length), some d, some (.str (tx [32]))]) (μ' := μ ++ [.lst (done ++ [d])]) ?_ ?_
      · simp only [bind_ok, then_ok, next_nx, next_rt, next_br, next_ct, finO_rt, finO_nx, runB, runS, evalE, evalEs, evalT, evalO, evalIt, evalR, assignT, startR, List.map_cons, List.map_nil, List.length_cons, List.length_nil, List.replicate_zero, List.replicate_succ, Nat.zero_add, Nat.reduceAdd, Nat.reduceSub, List.cons_append, List.nil_append, List.append_nil, List.set_cons_zero, List.set_cons_succ, List.getElem?_cons_succ, List.getElem?_cons_zero, idxD, seqD, binD, setIxD, cmpD, truD, bifD, isiD, Int.reduceNeg, Bool.not_true, Bool.not_false, ↓reduceIte, Bool.false_eq_true, Bool.true_eq_false, if_true, if_false, List.zip_cons_cons, List.zip_nil_right, List.zip_nil_left, List.foldl_cons, List.foldl_nil, tyf, Bool.or_false, Bool.false_or, Bool.or_true, Bool.true_or, Bool.or_self, t_2, deref, needs_pos (eqs (a := 32) (b := 41) (by decide) (by decide)), eqD, tx_beq, List.cons_beq_cons, Nat.reduceBEq, Bool.false_and]
      refine run_nx (ρ' := [some (.str T), some (.str Mk), some (.int EN), some (.int dp), some (.ref μ.length), some d, some (.str (tx [32]))]) (μ' := μ ++ [.lst (done ++ [d])]) ?_ ?_
      · simp only [bind_ok, then_ok, next_nx, next_rt, next_br, next_ct, finO_rt, finO_nx, runB, runS, evalE, evalEs, evalT, evalO, evalIt, evalR, assignT, startR, List.map_cons, List.map_nil, List.length_cons, List.length_nil, List.replicate_zero, List.replicate_succ, Nat.zero_add, Nat.reduceAdd, Nat.reduceSub, List.cons_append, List.nil_append, List.append_nil, List.set_cons_zero, List.set_cons_succ, List.getElem?_cons_succ, List.getElem?_cons_zero, idxD, seqD, binD, setIxD, cmpD, truD, bifD, isiD, Int.reduceNeg, Bool.not_true, Bool.not_false, ↓reduceIte, Bool.false_eq_true, Bool.true_eq_false, if_true, if_false, List.zip_cons_cons, List.zip_nil_right, List.zip_nil_left, List.foldl_cons, List.foldl_nil, tyf, Bool.or_false, Bool.false_or, Bool.or_true, Bool.true_or, Bool.or_self, t_1, deref, needs_pos (eqs (a := 32) (b := 32) (by decide) (by decide)), eqD, tx_beq, beq_self_eq_true]
      simp only [bind_ok, then_ok, next_nx, next_rt, next_br, next_ct, finO_rt, finO_nx, runB, runS, evalE, evalEs, evalT, evalO, evalIt, evalR, assignT, startR, List.map_cons, List.map_nil, List.length_cons, List.length_nil, List.replicate_zero, List.replicate_succ, Nat.zero_add, Nat.reduceAdd, Nat.reduceSub, List.cons_append, List.nil_append, List.append_nil, List.set_cons_zero, List.set_cons_succ, List.getElem?_cons_succ, List.getElem?_cons_zero, idxD, seqD, binD, setIxD, cmpD, truD, bifD, isiD, Int.reduceNeg, Bool.not_true, Bool.not_false, ↓reduceIte, Bool.false_eq_true, Bool.true_eq_false, if_true, if_false, List.zip_cons_cons, List.zip_nil_right, List.zip_nil_left, List.foldl_cons, List.foldl_nil, tyf, Bool.or_false, Bool.false_or, Bool.or_true, Bool.true_or, Bool.or_self]
    have rc := members_loop (k := k) (T := T) (Mk := Mk) (dp := dp) hμ (e :: l) n (done ++ [d]) (p ++ (plainL d ++ [32])) (mp ++ (maskL d ++ [32])) r mr (some d) (some (.str (tx [32]))) (fun d hd => hr d (List.mem_cons_of_mem _ hd)) (by simp) ho'.2 (by rw [pureDs_append, hp]; simp only [pureDs, okV.pure ho'.1]; rfl) hdp'.2 hT2 hM2
      (by simp only [List.length_append, List.length_cons, List.length_nil, mask_len, hpl]) (by simp only [List.length_append, List.length_cons, List.length_nil]; omega) (by simp only [List.length_append, List.length_cons, List.length_nil]; omega) (by simp only [List.length_cons] at *; omega)
    have cast2 : ((p.length + (plainL d).length : Nat) : Int) + 1 = ((p ++ (plainL d ++ [32])).length : Int) := by simp; omega
    have cast3 : (((p ++ (plainL d ++ [32])).length + (plainLs (e :: l)).length : Nat) : Int) = ((p.length + (plainL d ++ 32 :: plainLs (e :: l)).length : Nat) : Int) := by simp; omega
    rw [cast3, ← cast2] at rc
    have app : done ++ [d] ++ (e :: l) = done ++ (d :: e :: l) := by simp
    rw [app] at rc
    unfold whileLoop
    simp only [evalT, evalE, bind_ok, truD, then_ok, if_true, body]
    exact rc
theorem plain_head : ∀ {d : D}, okV d = true → ∃ c s, plainL d = c :: s ∧ c ≠ 41 ∧ c < 0x110000
  | .non, _ => ⟨_, _, rfl, by decide, by decide⟩
  | .bl true, _ => ⟨84, [], rfl, by decide, by decide⟩
  | .bl false, _ => ⟨70, [], rfl, by decide, by decide⟩
  | .int (.ofNat n), _ => by
    cases h : TL.numL n with
    | nil => exact absurd h (TL.numL_ne n)
    | cons c s =>
      have := TL.numL_digits n c (by rw [h]; simp)
      exact ⟨c, s, h, by omega, by omega⟩
  | .int (.negSucc n), _ => ⟨45, _, rfl, by decide, by decide⟩
  | .str _, _ => ⟨34, _, rfl, by decide, by decide⟩
  | .tup _, _ => ⟨40, _, rfl, by decide, by decide⟩
  | .ref _, h => by cases h
  | .lst _, h => by cases h
theorem plains_head {d : D} {l : List D} (h : okVs (d :: l) = true) : ∃ c s, plainLs (d :: l) = c :: s ∧ c ≠ 41 ∧ c < 0x110000 := by
  have h' : okV d = true ∧ okVs l = true := by simpa only [okVs, Bool.and_eq_true] using h
  obtain ⟨c, s, e, h1, h2⟩ := plain_head h'.1
  cases l with
  | nil => exact ⟨c, s, by rw [plainLs, e], h1, h2⟩
  | cons f r => exact ⟨c, s ++ 32 :: plainLs (f :: r), by rw [plainLs, e]; rfl, h1, h2⟩
theorem read_members_ok {k : Nat} {T Mk : Str} {l : List D} {p mp r mr : List Nat} {μ : Mu} {dp : Nat} (hμ : PureM μ) (hr : ∀ d ∈ l, RV k d) (ho : okVs l = true) (hdp : dp + 1 + deps l ≤ 60)
    (hT : T = tx (p ++ (40 :: (plainLs l ++ [41]) ++ r))) (hM : Mk = tx (mp ++ (40 :: (maskLs l ++ [41]) ++ mr))) (hpl : mp.length = p.length) (ht : p.length + (plainLs l).length + 2 + r.length ≤ 40000) :
    cl (k + 1) n_read_members [.str T, .str Mk, .int p.length, .int dp] μ = .ok (.tup [.tup l, .int ((p.length + (40 :: (plainLs l ++ [41])).length : Nat) : Int)]) μ := by
  have g0 : 0 ≤ 16777216 := Nat.zero_le _
  have g2 : (2 : Nat) ≤ 16777216 := by decide
  have hT1 : T = tx ((p ++ [40]) ++ (plainLs l ++ 41 :: r)) := by rw [hT]; simp
  have hM1 : Mk = tx ((mp ++ [40]) ++ (maskLs l ++ 41 :: mr)) := by rw [hM]; simp
  have hp1 : ((p ++ [40]).length : Int) = (p.length : Int) + 1 := by simp
  have hl : T.length ≤ 16777216 := by
    rw [hT1, tx_len]
    simp only [List.length_append, List.length_cons, List.length_nil]
    omega
  have h60 : ((dp : Int) == 60) = false := by simp; omega
  have eqi : ∀ a b : Int, (eqOk 64 (.int a) = true ∧ eqOk 64 (.int b) = true) := fun _ _ => ⟨rfl, rfl⟩
  unfold cl
  rw [c_read_members]
  have ok64 : ∃ c, cutS T (some ((p.length : Int) + 1)) (some ((p.length : Int) + 1 + 1)) = tx [c] ∧ c < 0x110000 ∧ ((c == 41) = true ↔ l = []) := by
    cases l with
    | nil => exact ⟨41, by rw [hT1]; exact cut_at (p ++ [40]) 41 r hp1.symm (by rw [hp1]), by decide, by simp⟩
    | cons d l =>
      obtain ⟨c, s, e, h1, h2⟩ := plains_head ho
      refine ⟨c, by rw [hT1, e]; exact cut_at (p ++ [40]) c (s ++ 41 :: r) hp1.symm (by rw [hp1]), h2, by simp [h1]⟩
  obtain ⟨c, q2, hc, hcl⟩ := ok64
  by_cases hn : l = []
  · have hcb : (c == 41) = true := hcl.mpr hn
    have e41 : c = 41 := by simpa using hcb
    subst hn
    subst e41
    have full : runB (gg k) b_read_members (startR f_read_members.N.length [.str T, .str Mk, .int p.length, .int dp]) μ = .rt (.tup [.tup [], .int ((p.length : Int) + 1 + 1)]) μ := by
      clear hT hT1
      unfold b_read_members
      refine run_nx (ρ' := [some (.str T), some (.str Mk), some (.int p.length), some (.int dp), none, none, none]) (μ' := μ) ?_ ?_
      · simp only [f_read_members, bind_ok, then_ok, next_nx, next_rt, next_br, next_ct, finO_rt, finO_nx, runB, runS, evalE, evalEs, evalT, evalO, evalIt, evalR, assignT, startR, List.map_cons, List.map_nil, List.length_cons, List.length_nil, List.replicate_zero, List.replicate_succ, Nat.zero_add, Nat.reduceAdd, Nat.reduceSub, List.cons_append, List.nil_append, List.append_nil, List.set_cons_zero, List.set_cons_succ, List.getElem?_cons_succ, List.getElem?_cons_zero, idxD, seqD, binD, setIxD, cmpD, truD, bifD, isiD, Int.reduceNeg, Bool.not_true, Bool.not_false, ↓reduceIte, Bool.false_eq_true, Bool.true_eq_false, if_true, if_false, List.zip_cons_cons, List.zip_nil_right, List.zip_nil_left, List.foldl_cons, List.foldl_nil, tyf, Bool.or_false, Bool.false_or, Bool.or_true, Bool.true_or, Bool.or_self, con, deref, needs_pos (eqi _ _), eqD, h60]
      refine run_nx (ρ' := [some (.str T), some (.str Mk), some (.int (p.length + 1)), some (.int dp), none, none, none]) (μ' := μ) ?_ ?_
      · simp only [bind_ok, then_ok, next_nx, next_rt, next_br, next_ct, finO_rt, finO_nx, runB, runS, evalE, evalEs, evalT, evalO, evalIt, evalR, assignT, startR, List.map_cons, List.map_nil, List.length_cons, List.length_nil, List.replicate_zero, List.replicate_succ, Nat.zero_add, Nat.reduceAdd, Nat.reduceSub, List.cons_append, List.nil_append, List.append_nil, List.set_cons_zero, List.set_cons_succ, List.getElem?_cons_succ, List.getElem?_cons_zero, idxD, seqD, binD, setIxD, cmpD, truD, bifD, isiD, Int.reduceNeg, Bool.not_true, Bool.not_false, ↓reduceIte, Bool.false_eq_true, Bool.true_eq_false, if_true, if_false, List.zip_cons_cons, List.zip_nil_right, List.zip_nil_left, List.foldl_cons, List.foldl_nil, tyf, Bool.or_false, Bool.false_or, Bool.or_true, Bool.true_or, Bool.or_self]
      refine run_rt ?_
      simp only [bind_ok, then_ok, next_nx, next_rt, next_br, next_ct, finO_rt, finO_nx, runB, runS, evalE, evalEs, evalT, evalO, evalIt, evalR, assignT, startR, List.map_cons, List.map_nil, List.length_cons, List.length_nil, List.replicate_zero, List.replicate_succ, Nat.zero_add, Nat.reduceAdd, Nat.reduceSub, List.cons_append, List.nil_append, List.append_nil, List.set_cons_zero, List.set_cons_succ, List.getElem?_cons_succ, List.getElem?_cons_zero, idxD, seqD, binD, setIxD, cmpD, truD, bifD, isiD, Int.reduceNeg, Bool.not_true, Bool.not_false, ↓reduceIte, Bool.false_eq_true, Bool.true_eq_false, if_true, if_false, List.zip_cons_cons, List.zip_nil_right, List.zip_nil_left, List.foldl_cons, List.foldl_nil, tyf, Bool.or_false, Bool.false_or, Bool.or_true, Bool.true_or, Bool.or_self, slcD, needs_pos hl, q2, t_2, deref, needs_pos (eqs hc (show 41 < 0x110000 by decide)), eqD, tx_beq, beq_self_eq_true, needs_pos g0, needs_pos g2]
    rw [full, finO_rt, fin_same rfl]
    have : (p.length : Int) + 1 + 1 = ((p.length + (40 :: (plainLs ([] : List D) ++ [41])).length : Nat) : Int) := by
      simp [plainLs]
      omega
    rw [this]
  · have hcb : (c == 41) = false := by
      cases h : c == 41
      · rfl
      · exact absurd (hcl.mp h) hn
    have loop := members_loop (k := k) (T := T) (Mk := Mk) (dp := dp) hμ l 100000 [] (p ++ [40]) (mp ++ [40]) r mr none none hr hn ho rfl hdp hT1 hM1 (by simp [hpl]) (by simp only [List.length_append, List.length_cons, List.length_nil]; omega) (by have := plains_len ho; simp only [List.length_nil]; omega) (by have := plains_len ho; omega)
    rw [hp1] at loop
    have cast : (((p ++ [40]).length + (plainLs l).length : Nat) : Int) + 1 = ((p.length + (40 :: (plainLs l ++ [41])).length : Nat) : Int) := by
      simp only [List.length_append, List.length_cons, List.length_nil]
      omega
    rw [cast] at loop
    have full : runB (gg k) b_read_members (startR f_read_members.N.length [.str T, .str Mk, .int p.length, .int dp]) μ = .rt (.tup [.tup l, .int ((p.length + (40 :: (plainLs l ++ [41])).length : Nat) : Int)]) (μ ++ [.lst l]) := by
      clear hT hT1
      generalize ((p.length + (40 :: (plainLs l ++ [41])).length : Nat) : Int) = EN at loop ⊢
      unfold b_read_members
      refine run_nx (ρ' := [some (.str T), some (.str Mk), some (.int p.length), some (.int dp), none, none, none]) (μ' := μ) ?_ ?_
      · simp only [f_read_members, bind_ok, then_ok, next_nx, next_rt, next_br, next_ct, finO_rt, finO_nx, runB, runS, evalE, evalEs, evalT, evalO, evalIt, evalR, assignT, startR, List.map_cons, List.map_nil, List.length_cons, List.length_nil, List.replicate_zero, List.replicate_succ, Nat.zero_add, Nat.reduceAdd, Nat.reduceSub, List.cons_append, List.nil_append, List.append_nil, List.set_cons_zero, List.set_cons_succ, List.getElem?_cons_succ, List.getElem?_cons_zero, idxD, seqD, binD, setIxD, cmpD, truD, bifD, isiD, Int.reduceNeg, Bool.not_true, Bool.not_false, ↓reduceIte, Bool.false_eq_true, Bool.true_eq_false, if_true, if_false, List.zip_cons_cons, List.zip_nil_right, List.zip_nil_left, List.foldl_cons, List.foldl_nil, tyf, Bool.or_false, Bool.false_or, Bool.or_true, Bool.true_or, Bool.or_self, con, deref, needs_pos (eqi _ _), eqD, h60]
      refine run_nx (ρ' := [some (.str T), some (.str Mk), some (.int (p.length + 1)), some (.int dp), none, none, none]) (μ' := μ) ?_ ?_
      · simp only [bind_ok, then_ok, next_nx, next_rt, next_br, next_ct, finO_rt, finO_nx, runB, runS, evalE, evalEs, evalT, evalO, evalIt, evalR, assignT, startR, List.map_cons, List.map_nil, List.length_cons, List.length_nil, List.replicate_zero, List.replicate_succ, Nat.zero_add, Nat.reduceAdd, Nat.reduceSub, List.cons_append, List.nil_append, List.append_nil, List.set_cons_zero, List.set_cons_succ, List.getElem?_cons_succ, List.getElem?_cons_zero, idxD, seqD, binD, setIxD, cmpD, truD, bifD, isiD, Int.reduceNeg, Bool.not_true, Bool.not_false, ↓reduceIte, Bool.false_eq_true, Bool.true_eq_false, if_true, if_false, List.zip_cons_cons, List.zip_nil_right, List.zip_nil_left, List.foldl_cons, List.foldl_nil, tyf, Bool.or_false, Bool.false_or, Bool.or_true, Bool.true_or, Bool.or_self]
      refine run_nx (ρ' := [some (.str T), some (.str Mk), some (.int (p.length + 1)), some (.int dp), none, none, none]) (μ' := μ) ?_ ?_
      · simp only [bind_ok, then_ok, next_nx, next_rt, next_br, next_ct, finO_rt, finO_nx, runB, runS, evalE, evalEs, evalT, evalO, evalIt, evalR, assignT, startR, List.map_cons, List.map_nil, List.length_cons, List.length_nil, List.replicate_zero, List.replicate_succ, Nat.zero_add, Nat.reduceAdd, Nat.reduceSub, List.cons_append, List.nil_append, List.append_nil, List.set_cons_zero, List.set_cons_succ, List.getElem?_cons_succ, List.getElem?_cons_zero, idxD, seqD, binD, setIxD, cmpD, truD, bifD, isiD, Int.reduceNeg, Bool.not_true, Bool.not_false, ↓reduceIte, Bool.false_eq_true, Bool.true_eq_false, if_true, if_false, List.zip_cons_cons, List.zip_nil_right, List.zip_nil_left, List.foldl_cons, List.foldl_nil, tyf, Bool.or_false, Bool.false_or, Bool.or_true, Bool.true_or, Bool.or_self, slcD, needs_pos hl, q2, t_2, deref, needs_pos (eqs hc (show 41 < 0x110000 by decide)), eqD, tx_beq, List.cons_beq_cons, hcb, Bool.false_and]
      refine run_nx (ρ' := [some (.str T), some (.str Mk), some (.int (p.length + 1)), some (.int dp), some (.ref μ.length), none, none]) (μ' := μ ++ [.lst []]) ?_ ?_
      · simp only [bind_ok, then_ok, next_nx, next_rt, next_br, next_ct, finO_rt, finO_nx, runB, runS, evalE, evalEs, evalT, evalO, evalIt, evalR, assignT, startR, List.map_cons, List.map_nil, List.length_cons, List.length_nil, List.replicate_zero, List.replicate_succ, Nat.zero_add, Nat.reduceAdd, Nat.reduceSub, List.cons_append, List.nil_append, List.append_nil, List.set_cons_zero, List.set_cons_succ, List.getElem?_cons_succ, List.getElem?_cons_zero, idxD, seqD, binD, setIxD, cmpD, truD, bifD, isiD, Int.reduceNeg, Bool.not_true, Bool.not_false, ↓reduceIte, Bool.false_eq_true, Bool.true_eq_false, if_true, if_false, List.zip_cons_cons, List.zip_nil_right, List.zip_nil_left, List.foldl_cons, List.foldl_nil, tyf, Bool.or_false, Bool.false_or, Bool.or_true, Bool.true_or, Bool.or_self, needs_pos g0]
      refine run_rt ?_
      rw [runS]
      exact loop
    rw [full, finO_rt, fin_one hμ]
    simp only [pureD, pureDs, okVs.pure ho]
    rfl
end PyI.K30
namespace PyI.K30
open PySem L2
section
variable {k : Nat} {T Mk : Str} {p : List Nat} {μ : Mu} {dp : Int} {c : Nat} {v d : D}
theorem rv_gin (hl : T.length ≤ 16777216) (hc : c < 0x110000) (h34 : c ≠ 34) (h40 : c ≠ 40) (hq : cutS T (some (p.length : Int)) (some ((p.length : Int) + 1)) = tx [c]) (hk : (dic 0).lookup (tx [c]) = some v) :
    cl (k + 1) n_read_value [.str T, .str Mk, .int p.length, .int dp] μ = .ok (.tup [v, .int ((p.length : Int) + 1)]) μ := by
  have g2 : (2 : Nat) ≤ 16777216 := by decide
  unfold cl
  rw [c_read_value]
  have full : runB (gg k) b_read_value (startR f_read_value.N.length [.str T, .str Mk, .int p.length, .int dp]) μ = .rt (.tup [v, .int ((p.length : Int) + 1)]) μ := by
    unfold b_read_value
    refine run_nx (ρ' := [some (.str T), some (.str Mk), some (.int p.length), some (.int dp), some (.str (tx [c]))]) (μ' := μ) ?_ ?_
    · simp only [f_read_value, bind_ok, then_ok, next_nx, next_rt, next_br, next_ct, finO_rt, finO_nx, runB, runS, evalE, evalEs, evalT, evalO, evalIt, evalR, assignT, startR, List.map_cons, List.map_nil, List.length_cons, List.length_nil, List.replicate_zero, List.replicate_succ, Nat.zero_add, Nat.reduceAdd, Nat.reduceSub, List.cons_append, List.nil_append, List.append_nil, List.set_cons_zero, List.set_cons_succ, List.getElem?_cons_succ, List.getElem?_cons_zero, idxD, seqD, binD, setIxD, cmpD, truD, bifD, isiD, Int.reduceNeg, Bool.not_true, Bool.not_false, ↓reduceIte, Bool.false_eq_true, Bool.true_eq_false, if_true, if_false, List.zip_cons_cons, List.zip_nil_right, List.zip_nil_left, List.foldl_cons, List.foldl_nil, tyf, Bool.or_false, Bool.false_or, Bool.or_true, Bool.true_or, Bool.or_self, slcD, needs_pos hl, hq]
    refine run_nx (ρ' := [some (.str T), some (.str Mk), some (.int p.length), some (.int dp), some (.str (tx [c]))]) (μ' := μ) ?_ ?_
    · simp only [bind_ok, then_ok, next_nx, next_rt, next_br, next_ct, finO_rt, finO_nx, runB, runS, evalE, evalEs, evalT, evalO, evalIt, evalR, assignT, startR, List.map_cons, List.map_nil, List.length_cons, List.length_nil, List.replicate_zero, List.replicate_succ, Nat.zero_add, Nat.reduceAdd, Nat.reduceSub, List.cons_append, List.nil_append, List.append_nil, List.set_cons_zero, List.set_cons_succ, List.getElem?_cons_succ, List.getElem?_cons_zero, idxD, seqD, binD, setIxD, cmpD, truD, bifD, isiD, Int.reduceNeg, Bool.not_true, Bool.not_false, ↓reduceIte, Bool.false_eq_true, Bool.true_eq_false, if_true, if_false, List.zip_cons_cons, List.zip_nil_right, List.zip_nil_left, List.foldl_cons, List.foldl_nil, tyf, Bool.or_false, Bool.false_or, Bool.or_true, Bool.true_or, Bool.or_self, t_8, deref, needs_pos (eqs hc (show 34 < 0x110000 by decide)), eqD, tx_beq, List.cons_beq_cons, beq_eq_false_iff_ne.mpr h34, Bool.false_and]
    refine run_nx (ρ' := [some (.str T), some (.str Mk), some (.int p.length), some (.int dp), some (.str (tx [c]))]) (μ' := μ) ?_ ?_
    · simp only [bind_ok, then_ok, next_nx, next_rt, next_br, next_ct, finO_rt, finO_nx, runB, runS, evalE, evalEs, evalT, evalO, evalIt, evalR, assignT, startR, List.map_cons, List.map_nil, List.length_cons, List.length_nil, List.replicate_zero, List.replicate_succ, Nat.zero_add, Nat.reduceAdd, Nat.reduceSub, List.cons_append, List.nil_append, List.append_nil, List.set_cons_zero, List.set_cons_succ, List.getElem?_cons_succ, List.getElem?_cons_zero, idxD, seqD, binD, setIxD, cmpD, truD, bifD, isiD, Int.reduceNeg, Bool.not_true, Bool.not_false, ↓reduceIte, Bool.false_eq_true, Bool.true_eq_false, if_true, if_false, List.zip_cons_cons, List.zip_nil_right, List.zip_nil_left, List.foldl_cons, List.foldl_nil, tyf, Bool.or_false, Bool.false_or, Bool.or_true, Bool.true_or, Bool.or_self, t_0, deref, needs_pos (eqs hc (show 40 < 0x110000 by decide)), eqD, tx_beq, List.cons_beq_cons, beq_eq_false_iff_ne.mpr h40, Bool.false_and]
    refine run_rt ?_
    simp only [bind_ok, then_ok, next_nx, next_rt, next_br, next_ct, finO_rt, finO_nx, runB, runS, evalE, evalEs, evalT, evalO, evalIt, evalR, assignT, startR, List.map_cons, List.map_nil, List.length_cons, List.length_nil, List.replicate_zero, List.replicate_succ, Nat.zero_add, Nat.reduceAdd, Nat.reduceSub, List.cons_append, List.nil_append, List.append_nil, List.set_cons_zero, List.set_cons_succ, List.getElem?_cons_succ, List.getElem?_cons_zero, idxD, seqD, binD, setIxD, cmpD, truD, bifD, isiD, Int.reduceNeg, Bool.not_true, Bool.not_false, ↓reduceIte, Bool.false_eq_true, Bool.true_eq_false, if_true, if_false, List.zip_cons_cons, List.zip_nil_right, List.zip_nil_left, List.foldl_cons, List.foldl_nil, tyf, Bool.or_false, Bool.false_or, Bool.or_true, Bool.true_or, Bool.or_self, hk, Option.isSome_some, needs_pos g2]
  rw [full, finO_rt, fin_same rfl]
theorem rv_num (hl : T.length ≤ 16777216) (hc : c < 0x110000) (h34 : c ≠ 34) (h40 : c ≠ 40) (hq : cutS T (some (p.length : Int)) (some ((p.length : Int) + 1)) = tx [c]) (hk : (dic 0).lookup (tx [c]) = none)
    (hn : cl k n_read_number [.str T, .int p.length] μ = .ok d μ) :
    cl (k + 1) n_read_value [.str T, .str Mk, .int p.length, .int dp] μ = .ok d μ := by
  unfold cl at *
  rw [c_read_value]
  have full : runB (gg k) b_read_value (startR f_read_value.N.length [.str T, .str Mk, .int p.length, .int dp]) μ = .rt d μ := by
    unfold b_read_value
    refine run_nx (ρ' := [some (.str T), some (.str Mk), some (.int p.length), some (.int dp), some (.str (tx [c]))]) (μ' := μ) ?_ ?_
    · simp only [f_read_value, bind_ok, then_ok, next_nx, next_rt, next_br, next_ct, finO_rt, finO_nx, runB, runS, evalE, evalEs, evalT, evalO, evalIt, evalR, assignT, startR, List.map_cons, List.map_nil, List.length_cons, List.length_nil, List.replicate_zero, List.replicate_succ, Nat.zero_add, Nat.reduceAdd, Nat.reduceSub, List.cons_append, List.nil_append, List.append_nil, List.set_cons_zero, List.set_cons_succ, List.getElem?_cons_succ, List.getElem?_cons_zero, idxD, seqD, binD, setIxD, cmpD, truD, bifD, isiD, Int.reduceNeg, Bool.not_true, Bool.not_false, ↓reduceIte, Bool.false_eq_true, Bool.true_eq_false, if_true, if_false, List.zip_cons_cons, List.zip_nil_right, List.zip_nil_left, List.foldl_cons, List.foldl_nil, tyf, Bool.or_false, Bool.false_or, Bool.or_true, Bool.true_or, Bool.or_self, slcD, needs_pos hl, hq]
    refine run_nx (ρ' := [some (.str T), some (.str Mk), some (.int p.length), some (.int dp), some (.str (tx [c]))]) (μ' := μ) ?_ ?_
    · simp only [bind_ok, then_ok, next_nx, next_rt, next_br, next_ct, finO_rt, finO_nx, runB, runS, evalE, evalEs, evalT, evalO, evalIt, evalR, assignT, startR, List.map_cons, List.map_nil, List.length_cons, List.length_nil, List.replicate_zero, List.replicate_succ, Nat.zero_add, Nat.reduceAdd, Nat.reduceSub, List.cons_append, List.nil_append, List.append_nil, List.set_cons_zero, List.set_cons_succ, List.getElem?_cons_succ, List.getElem?_cons_zero, idxD, seqD, binD, setIxD, cmpD, truD, bifD, isiD, Int.reduceNeg, Bool.not_true, Bool.not_false, ↓reduceIte, Bool.false_eq_true, Bool.true_eq_false, if_true, if_false, List.zip_cons_cons, List.zip_nil_right, List.zip_nil_left, List.foldl_cons, List.foldl_nil, tyf, Bool.or_false, Bool.false_or, Bool.or_true, Bool.true_or, Bool.or_self, t_8, deref, needs_pos (eqs hc (show 34 < 0x110000 by decide)), eqD, tx_beq, List.cons_beq_cons, beq_eq_false_iff_ne.mpr h34, Bool.false_and]
    refine run_nx (ρ' := [some (.str T), some (.str Mk), some (.int p.length), some (.int dp), some (.str (tx [c]))]) (μ' := μ) ?_ ?_
    · simp only [bind_ok, then_ok, next_nx, next_rt, next_br, next_ct, finO_rt, finO_nx, runB, runS, evalE, evalEs, evalT, evalO, evalIt, evalR, assignT, startR, List.map_cons, List.map_nil, List.length_cons, List.length_nil, List.replicate_zero, List.replicate_succ, Nat.zero_add, Nat.reduceAdd, Nat.reduceSub, List.cons_append, List.nil_append, List.append_nil, List.set_cons_zero, List.set_cons_succ, List.getElem?_cons_succ, List.getElem?_cons_zero, idxD, seqD, binD, setIxD, cmpD, truD, bifD, isiD, Int.reduceNeg, Bool.not_true, Bool.not_false, ↓reduceIte, Bool.false_eq_true, Bool.true_eq_false, if_true, if_false, List.zip_cons_cons, List.zip_nil_right, List.zip_nil_left, List.foldl_cons, List.foldl_nil, tyf, Bool.or_false, Bool.false_or, Bool.or_true, Bool.true_or, Bool.or_self, t_0, deref, needs_pos (eqs hc (show 40 < 0x110000 by decide)), eqD, tx_beq, List.cons_beq_cons, beq_eq_false_iff_ne.mpr h40, Bool.false_and]
    refine run_nx (ρ' := [some (.str T), some (.str Mk), some (.int p.length), some (.int dp), some (.str (tx [c]))]) (μ' := μ) ?_ ?_
    · simp only [bind_ok, then_ok, next_nx, next_rt, next_br, next_ct, finO_rt, finO_nx, runB, runS, evalE, evalEs, evalT, evalO, evalIt, evalR, assignT, startR, List.map_cons, List.map_nil, List.length_cons, List.length_nil, List.replicate_zero, List.replicate_succ, Nat.zero_add, Nat.reduceAdd, Nat.reduceSub, List.cons_append, List.nil_append, List.append_nil, List.set_cons_zero, List.set_cons_succ, List.getElem?_cons_succ, List.getElem?_cons_zero, idxD, seqD, binD, setIxD, cmpD, truD, bifD, isiD, Int.reduceNeg, Bool.not_true, Bool.not_false, ↓reduceIte, Bool.false_eq_true, Bool.true_eq_false, if_true, if_false, List.zip_cons_cons, List.zip_nil_right, List.zip_nil_left, List.foldl_cons, List.foldl_nil, tyf, Bool.or_false, Bool.false_or, Bool.or_true, Bool.true_or, Bool.or_self, hk, Option.isSome_none]
    refine run_rt ?_
    simp only [bind_ok, then_ok, next_nx, next_rt, next_br, next_ct, finO_rt, finO_nx, runB, runS, evalE, evalEs, evalT, evalO, evalIt, evalR, assignT, startR, List.map_cons, List.map_nil, List.length_cons, List.length_nil, List.replicate_zero, List.replicate_succ, Nat.zero_add, Nat.reduceAdd, Nat.reduceSub, List.cons_append, List.nil_append, List.append_nil, List.set_cons_zero, List.set_cons_succ, List.getElem?_cons_succ, List.getElem?_cons_zero, idxD, seqD, binD, setIxD, cmpD, truD, bifD, isiD, Int.reduceNeg, Bool.not_true, Bool.not_false, ↓reduceIte, Bool.false_eq_true, Bool.true_eq_false, if_true, if_false, List.zip_cons_cons, List.zip_nil_right, List.zip_nil_left, List.foldl_cons, List.foldl_nil, tyf, Bool.or_false, Bool.false_or, Bool.or_true, Bool.true_or, Bool.or_self, hn]
  rw [full, finO_rt, fin_same rfl]
theorem rv_quo (hl : T.length ≤ 16777216) (hq : cutS T (some (p.length : Int)) (some ((p.length : Int) + 1)) = tx [34])
    (hn : cl k n_read_quoted [.str T, .str Mk, .int ((p.length : Int) + 1)] μ = .ok d μ) :
    cl (k + 1) n_read_value [.str T, .str Mk, .int p.length, .int dp] μ = .ok d μ := by
  unfold cl at *
  rw [c_read_value]
  have full : runB (gg k) b_read_value (startR f_read_value.N.length [.str T, .str Mk, .int p.length, .int dp]) μ = .rt d μ := by
    unfold b_read_value
    refine run_nx (ρ' := [some (.str T), some (.str Mk), some (.int p.length), some (.int dp), some (.str (tx [34]))]) (μ' := μ) ?_ ?_
    · simp only [f_read_value, bind_ok, then_ok, next_nx, next_rt, next_br, next_ct, finO_rt, finO_nx, runB, runS, evalE, evalEs, evalT, evalO, evalIt, evalR, assignT, startR, List.map_cons, List.map_nil, List.length_cons, List.length_nil, List.replicate_zero, List.replicate_succ, Nat.zero_add, Nat.reduceAdd, Nat.reduceSub, List.cons_append, List.nil_append, List.append_nil, List.set_cons_zero, List.set_cons_succ, List.getElem?_cons_succ, List.getElem?_cons_zero, idxD, seqD, binD, setIxD, cmpD, truD, bifD, isiD, Int.reduceNeg, Bool.not_true, Bool.not_false, ↓reduceIte, Bool.false_eq_true, Bool.true_eq_false, if_true, if_false, List.zip_cons_cons, List.zip_nil_right, List.zip_nil_left, List.foldl_cons, List.foldl_nil, tyf, Bool.or_false, Bool.false_or, Bool.or_true, Bool.true_or, Bool.or_self, slcD, needs_pos hl, hq]
    refine run_rt ?_
    simp only [bind_ok, then_ok, next_nx, next_rt, next_br, next_ct, finO_rt, finO_nx, runB, runS, evalE, evalEs, evalT, evalO, evalIt, evalR, assignT, startR, List.map_cons, List.map_nil, List.length_cons, List.length_nil, List.replicate_zero, List.replicate_succ, Nat.zero_add, Nat.reduceAdd, Nat.reduceSub, List.cons_append, List.nil_append, List.append_nil, List.set_cons_zero, List.set_cons_succ, List.getElem?_cons_succ, List.getElem?_cons_zero, idxD, seqD, binD, setIxD, cmpD, truD, bifD, isiD, Int.reduceNeg, Bool.not_true, Bool.not_false, ↓reduceIte, Bool.false_eq_true, Bool.true_eq_false, if_true, if_false, List.zip_cons_cons, List.zip_nil_right, List.zip_nil_left, List.foldl_cons, List.foldl_nil, tyf, Bool.or_false, Bool.false_or, Bool.or_true, Bool.true_or, Bool.or_self, t_8, deref, needs_pos (eqs (show 34 < 0x110000 by decide) (show 34 < 0x110000 by decide)), eqD, tx_beq, beq_self_eq_true, hn]
  rw [full, finO_rt, fin_same rfl]
theorem rv_mem (hl : T.length ≤ 16777216) (hq : cutS T (some (p.length : Int)) (some ((p.length : Int) + 1)) = tx [40])
    (hn : cl k n_read_members [.str T, .str Mk, .int p.length, .int dp] μ = .ok d μ) :
    cl (k + 1) n_read_value [.str T, .str Mk, .int p.length, .int dp] μ = .ok d μ := by
  unfold cl at *
  rw [c_read_value]
  have full : runB (gg k) b_read_value (startR f_read_value.N.length [.str T, .str Mk, .int p.length, .int dp]) μ = .rt d μ := by
    unfold b_read_value
    refine run_nx (ρ' := [some (.str T), some (.str Mk), some (.int p.length), some (.int dp), some (.str (tx [40]))]) (μ' := μ) ?_ ?_
    · simp only [f_read_value, bind_ok, then_ok, next_nx, next_rt, next_br, next_ct, finO_rt, finO_nx, runB, runS, evalE, evalEs, evalT, evalO, evalIt, evalR, assignT, startR, List.map_cons, List.map_nil, List.length_cons, List.length_nil, List.replicate_zero, List.replicate_succ, Nat.zero_add, Nat.reduceAdd, Nat.reduceSub, List.cons_append, List.nil_append, List.append_nil, List.set_cons_zero, List.set_cons_succ, List.getElem?_cons_succ, List.getElem?_cons_zero, idxD, seqD, binD, setIxD, cmpD, truD, bifD, isiD, Int.reduceNeg, Bool.not_true, Bool.not_false, ↓reduceIte, Bool.false_eq_true, Bool.true_eq_false, if_true, if_false, List.zip_cons_cons, List.zip_nil_right, List.zip_nil_left, List.foldl_cons, List.foldl_nil, tyf, Bool.or_false, Bool.false_or, Bool.or_true, Bool.true_or, Bool.or_self, slcD, needs_pos hl, hq]
    refine run_nx (ρ' := [some (.str T), some (.str Mk), some (.int p.length), some (.int dp), some (.str (tx [40]))]) (μ' := μ) ?_ ?_
    · simp only [bind_ok, then_ok, next_nx, next_rt, next_br, next_ct, finO_rt, finO_nx, runB, runS, evalE, evalEs, evalT, evalO, evalIt, evalR, assignT, startR, List.map_cons, List.map_nil, List.length_cons, List.length_nil, List.replicate_zero, List.replicate_succ, Nat.zero_add, Nat.reduceAdd, Nat.reduceSub, List.cons_append, List.nil_append, List.append_nil, List.set_cons_zero, List.set_cons_succ, List.getElem?_cons_succ, List.getElem?_cons_zero, idxD, seqD, binD, setIxD, cmpD, truD, bifD, isiD, Int.reduceNeg, Bool.not_true, Bool.not_false, ↓reduceIte, Bool.false_eq_true, Bool.true_eq_false, if_true, if_false, List.zip_cons_cons, List.zip_nil_right, List.zip_nil_left, List.foldl_cons, List.foldl_nil, tyf, Bool.or_false, Bool.false_or, Bool.or_true, Bool.true_or, Bool.or_self, t_8, deref, needs_pos (eqs (show 40 < 0x110000 by decide) (show 34 < 0x110000 by decide)), eqD, tx_beq, List.cons_beq_cons, Nat.reduceBEq, Bool.false_and]
    refine run_rt ?_
    simp only [bind_ok, then_ok, next_nx, next_rt, next_br, next_ct, finO_rt, finO_nx, runB, runS, evalE, evalEs, evalT, evalO, evalIt, evalR, assignT, startR, List.map_cons, List.map_nil, List.length_cons, List.length_nil, List.replicate_zero, List.replicate_succ, Nat.zero_add, Nat.reduceAdd, Nat.reduceSub, List.cons_append, List.nil_append, List.append_nil, List.set_cons_zero, List.set_cons_succ, List.getElem?_cons_succ, List.getElem?_cons_zero, idxD, seqD, binD, setIxD, cmpD, truD, bifD, isiD, Int.reduceNeg, Bool.not_true, Bool.not_false, ↓reduceIte, Bool.false_eq_true, Bool.true_eq_false, if_true, if_false, List.zip_cons_cons, List.zip_nil_right, List.zip_nil_left, List.foldl_cons, List.foldl_nil, tyf, Bool.or_false, Bool.false_or, Bool.or_true, Bool.true_or, Bool.or_self, t_0, deref, needs_pos (eqs (show 40 < 0x110000 by decide) (show 40 < 0x110000 by decide)), eqD, tx_beq, beq_self_eq_true, hn]
  rw [full, finO_rt, fin_same rfl]
end
theorem rv_word {k c : Nat} {d : D} (e : plainL d = [c]) (hc : c < 0x110000) (h34 : c ≠ 34) (h40 : c ≠ 40) (hk : (dic 0).lookup (tx [c]) = some d) : RV (k + 1) d := by
  intro T Mk p mp r mr μ dp hT hM hμ hpl he ht hd
  rw [e] at hT ht ⊢
  have hl : T.length ≤ 16777216 := by
    rw [hT, tx_len]
    simp only [List.length_append, List.length_cons, List.length_nil] at *
    omega
  have hq : cutS T (some (p.length : Int)) (some ((p.length : Int) + 1)) = tx [c] := by
    rw [hT]
    exact cut_at p c r rfl rfl
  exact rv_gin hl hc h34 h40 hq hk
theorem int_head (i : Int) : ∃ c s, intL i = c :: s ∧ 45 ≤ c ∧ c ≤ 57 := by
  cases i with
  | ofNat n =>
    cases h : TL.numL n with
    | nil => exact absurd h (TL.numL_ne n)
    | cons c s =>
      have := TL.numL_digits n c (by rw [h]; simp)
      exact ⟨c, s, h, by omega, by omega⟩
  | negSucc n => exact ⟨45, _, rfl, by decide, by decide⟩
theorem rv_int {k : Nat} {i : Int} (hi : i.natAbs < 10 ^ 20) : RV (k + 2) (.int i) := by
  intro T Mk p mp r mr μ dp hT hM hμ hpl he ht hd
  simp only [plainL] at hT ht ⊢
  have hl : T.length ≤ 16777216 := by
    rw [hT, tx_len]
    simp only [List.length_append] at *
    omega
  obtain ⟨c, s, e, h1, h2⟩ := int_head i
  have hq : cutS T (some (p.length : Int)) (some ((p.length : Int) + 1)) = tx [c] := by
    rw [hT, e]
    exact cut_at p c (s ++ r) rfl rfl
  have hn := read_number_ok (k := k) (μ := μ) (p := p) (r := r) hi he (by omega)
  rw [← hT] at hn
  exact rv_num hl (by omega) (by omega) (by omega) hq (by rw [look, if_neg (by omega), if_neg (by omega), if_neg (by omega)]) hn
theorem rv_str {k : Nat} {s : Str} (hs : s.cps.toList.all sgn = true) : RV (k + 3) (.str s) := by
  intro T Mk p mp r mr μ dp hT hM hμ hpl he ht hd
  simp only [plainL] at hT ht ⊢
  simp only [maskL] at hM
  have hle := esc_le s.cps.toList
  simp only [List.length_append, List.length_cons, List.length_nil] at ht
  have hl : T.length ≤ 16777216 := by
    rw [hT, tx_len]
    simp only [List.length_append, List.length_cons, List.length_nil]
    omega
  have hq : cutS T (some (p.length : Int)) (some ((p.length : Int) + 1)) = tx [34] := by
    rw [hT]
    exact cut_at p 34 _ rfl rfl
  have hn := read_quoted_ok (k := k) (μ := μ) (p := p ++ [34]) (mp := mp ++ [34]) (r := r) (mr := mr) hμ hs (by simp [hpl]) (by omega) (by simp only [List.length_append, List.length_cons, List.length_nil]; omega)
  have eT : tx ((p ++ [34]) ++ (s.cps.toList.flatMap escT ++ 34 :: r)) = T := by rw [hT]; simp
  have eM : tx ((mp ++ [34]) ++ (s.cps.toList.flatMap mskT ++ 34 :: mr)) = Mk := by rw [hM]; simp
  have hp1 : ((p ++ [34]).length : Int) = (p.length : Int) + 1 := by simp
  rw [eT, eM, hp1, ← tx_self s] at hn
  have cast : (((p ++ [34]).length + (s.cps.toList.flatMap escT).length : Nat) : Int) + 1 = ((p.length + (34 :: (s.cps.toList.flatMap escT ++ [34])).length : Nat) : Int) := by
    simp only [List.length_append, List.length_cons, List.length_nil]
    omega
  rw [cast] at hn
  exact rv_quo hl hq hn
theorem rv_tup {k : Nat} {l : List D} (ho : okVs l = true) (hr : ∀ d ∈ l, RV k d) : RV (k + 2) (.tup l) := by
  intro T Mk p mp r mr μ dp hT hM hμ hpl he ht hd
  simp only [plainL] at hT ht ⊢
  simp only [maskL] at hM
  simp only [dep] at hd
  simp only [List.length_append, List.length_cons, List.length_nil] at ht
  have hl : T.length ≤ 16777216 := by
    rw [hT, tx_len]
    simp only [List.length_append, List.length_cons, List.length_nil]
    omega
  have hq : cutS T (some (p.length : Int)) (some ((p.length : Int) + 1)) = tx [40] := by
    rw [hT]
    exact cut_at p 40 _ rfl rfl
  exact rv_mem hl hq (read_members_ok hμ hr ho (by omega) hT hM hpl (by omega))
mutual
theorem rv : ∀ {d : D}, okV d = true → ∀ k, 2 * dep d + 4 ≤ k → RV k d
  | .non, _, k + 1, _ => rv_word rfl (by decide) (by decide) (by decide) (by rw [look]; rfl)
  | .bl true, _, k + 1, _ => rv_word rfl (by decide) (by decide) (by decide) (by rw [look]; rfl)
  | .bl false, _, k + 1, _ => rv_word rfl (by decide) (by decide) (by decide) (by rw [look]; rfl)
  | .int i, h, k + 2, _ => rv_int (by simpa only [okV, decide_eq_true_eq] using h)
  | .str s, h, k + 3, _ => rv_str h
  | .tup l, h, k + 2, hk => rv_tup h (rvs h k (by simp only [dep] at hk; omega))
  | .ref _, h, _, _ => by cases h
  | .lst _, h, _, _ => by cases h
theorem rvs : ∀ {l : List D}, okVs l = true → ∀ k, 2 * deps l + 4 ≤ k → ∀ d ∈ l, RV k d
  | [], _, _, _, d, hd => by cases hd
  | e :: l, h, k, hk, d, hd => by
    have h' : okV e = true ∧ okVs l = true := by simpa only [okVs, Bool.and_eq_true] using h
    simp only [deps] at hk
    rcases List.mem_cons.mp hd with q | q
    · rw [q]
      exact rv h'.1 k (by omega)
    · exact rvs h'.2 k (by omega) d q
end
theorem read_plain_ok {k : Nat} {d : D} {μ : Mu} (hμ : PureM μ) (ho : okV d = true) (hd : dep d ≤ 60) (hk : 2 * dep d + 4 ≤ k) (ht : (plainL d).length ≤ 30000) : cl (k + 1) n_read_plain [.str (tx (plainL d))] μ = .ok d μ := by
  have hr := rv ho k hk (tx (plainL d)) (tx (maskL d)) [] [] [] [] μ 0 (by simp) (by simp) hμ rfl (fun c s e => by cases e) (by simp; omega) (by omega)
  have hm := masked d
  have q1 : (tx (plainL d)).length + ((tx (plainL d)).length + 1) * (tx [46, 46]).length ≤ 16777216 := by
    rw [tx_len, tx_len]
    simp only [List.length_cons, List.length_nil]
    omega
  have q2 : (tx (StrLaws.replL [92, 92] [46, 46] (plainL d))).length + ((tx (StrLaws.replL [92, 92] [46, 46] (plainL d))).length + 1) * (tx [46, 46]).length ≤ 16777216 := by
    have := repl_len (y := [92, 92]) (z := [46, 46]) (by simp) (by simp) _ (plainL d) (Nat.le_refl _)
    rw [tx_len, tx_len]
    simp only [List.length_cons, List.length_nil]
    omega
  have hl : (tx (plainL d)).length ≤ 16777216 := by rw [tx_len]; omega
  have e0 : (([] : List Nat).length : Int) = 0 := rfl
  have e1 : ((([] : List Nat).length + (plainL d).length : Nat) : Int) = ((tx (plainL d)).length : Int) := by rw [tx_len]; simp
  rw [e0, e1] at hr
  have hlt : ¬ ((tx (plainL d)).length : Int) < ((tx (plainL d)).length : Int) := by omega
  unfold cl at *
  rw [c_read_plain]
  have z : ((0 : Nat) : Int) = 0 := rfl
  rw [z] at hr
  simp only [b_read_plain, f_read_plain, bind_ok, then_ok, next_nx, next_rt, next_br, next_ct, finO_rt, finO_nx, runB, runS, evalE, evalEs, evalT, evalO, evalIt, evalR, assignT, startR, List.map_cons, List.map_nil, List.length_cons, List.length_nil, List.replicate_zero, List.replicate_succ, Nat.zero_add, Nat.reduceAdd, Nat.reduceSub, List.cons_append, List.nil_append, List.append_nil, List.set_cons_zero, List.set_cons_succ, List.getElem?_cons_succ, List.getElem?_cons_zero, idxD, seqD, binD, setIxD, cmpD, truD, bifD, isiD, Int.reduceNeg, Bool.not_true, Bool.not_false, ↓reduceIte, Bool.false_eq_true, Bool.true_eq_false, if_true, if_false, List.zip_cons_cons, List.zip_nil_right, List.zip_nil_left, List.foldl_cons, List.foldl_nil, tyf, Bool.or_false, Bool.false_or, Bool.or_true, Bool.true_or, Bool.or_self, replD, t_7, t_9, t_12, needs_pos q1, tx_repl _ [92, 92] [46, 46] (by simp), needs_pos q2, tx_repl _ [92, 34] [46, 46] (by simp), hm, hr, needs_pos hl, hlt, decide_false]
  rw [fin_same rfl]
end PyI.K30
namespace PyI.K30
open PySem L2
theorem show_quoted_ok {k : Nat} {l : List Nat} {μ : Mu} (hl : l.length ≤ 100000) : cl (k + 1) n_show_quoted [.str (tx l)] μ = .ok (.str (tx (34 :: (l.flatMap escT ++ [34])))) μ := by
  have one : ∀ (y a b : Nat) (l : List Nat), (StrLaws.replL [y] [a, b] l).length ≤ 2 * l.length := by
    intro y a b l
    induction l with
    | nil => rw [StrLaws.replL_nil]; exact Nat.le_refl _
    | cons c r ih =>
      by_cases h : c = y
      · rw [StrLaws.replL_hit (by simp) (by simp [h])]
        simp at *
        omega
      · rw [StrLaws.replL_miss (by simpa using h)]
        simp
        omega
  have l1 := one 92 92 92 l
  have l2 := one 34 92 34 (StrLaws.replL [92] [92, 92] l)
  have hle := esc_le l
  have q1 : (tx l).length + ((tx l).length + 1) * (tx [92, 92]).length ≤ 16777216 := by
    rw [tx_len, tx_len]; simp only [List.length_cons, List.length_nil]; omega
  have q2 : (tx (StrLaws.replL [92] [92, 92] l)).length + ((tx (StrLaws.replL [92] [92, 92] l)).length + 1) * (tx [92, 34]).length ≤ 16777216 := by
    rw [tx_len, tx_len]; simp only [List.length_cons, List.length_nil]; omega
  have q3 : (tx (StrLaws.replL [34] [92, 34] (StrLaws.replL [92] [92, 92] l))).length + ((tx (StrLaws.replL [34] [92, 34] (StrLaws.replL [92] [92, 92] l))).length + 1) * (tx [92, 110]).length ≤ 16777216 := by
    rw [tx_len, tx_len]; simp only [List.length_cons, List.length_nil]; omega
  have q4 : (tx [34]).length + (tx (l.flatMap escT)).length ≤ 16777216 := by rw [tx_len, tx_len]; simp only [List.length_cons, List.length_nil]; omega
  have q5 : (tx ([34] ++ l.flatMap escT)).length + (tx [34]).length ≤ 16777216 := by rw [tx_len, tx_len]; simp only [List.length_cons, List.length_nil, List.length_append]; omega
  unfold cl
  rw [c_show_quoted]
  have full : runB (gg k) b_show_quoted (startR f_show_quoted.N.length [.str (tx l)]) μ = .rt (.str (tx (34 :: (l.flatMap escT ++ [34])))) μ := by
    unfold b_show_quoted
    refine run_nx (ρ' := [some (.str (tx l)), some (.str (tx (l.flatMap escT)))]) (μ' := μ) ?_ ?_
    · simp only [f_show_quoted, bind_ok, then_ok, next_nx, next_rt, next_br, next_ct, finO_rt, finO_nx, runB, runS, evalE, evalEs, evalT, evalO, evalIt, evalR, assignT, startR, List.map_cons, List.map_nil, List.length_cons, List.length_nil, List.replicate_zero, List.replicate_succ, Nat.zero_add, Nat.reduceAdd, Nat.reduceSub, List.cons_append, List.nil_append, List.append_nil, List.set_cons_zero, List.set_cons_succ, List.getElem?_cons_succ, List.getElem?_cons_zero, idxD, seqD, binD, setIxD, cmpD, truD, bifD, isiD, Int.reduceNeg, Bool.not_true, Bool.not_false, ↓reduceIte, Bool.false_eq_true, Bool.true_eq_false, if_true, if_false, List.zip_cons_cons, List.zip_nil_right, List.zip_nil_left, List.foldl_cons, List.foldl_nil, tyf, Bool.or_false, Bool.false_or, Bool.or_true, Bool.true_or, Bool.or_self, replD, t_6, t_7, t_8, t_9, t_10, t_11, needs_pos q1, tx_repl _ [92] [92, 92] (by simp), needs_pos q2, tx_repl _ [34] [92, 34] (by simp), needs_pos q3, tx_repl _ [10] [92, 110] (by simp), esc_repl]
    refine run_rt ?_
    simp only [List.cons_append, List.nil_append] at q5
    simp only [bind_ok, then_ok, next_nx, next_rt, next_br, next_ct, finO_rt, finO_nx, runB, runS, evalE, evalEs, evalT, evalO, evalIt, evalR, assignT, startR, List.map_cons, List.map_nil, List.length_cons, List.length_nil, List.replicate_zero, List.replicate_succ, Nat.zero_add, Nat.reduceAdd, Nat.reduceSub, List.cons_append, List.nil_append, List.append_nil, List.set_cons_zero, List.set_cons_succ, List.getElem?_cons_succ, List.getElem?_cons_zero, idxD, seqD, binD, setIxD, cmpD, truD, bifD, isiD, Int.reduceNeg, Bool.not_true, Bool.not_false, ↓reduceIte, Bool.false_eq_true, Bool.true_eq_false, if_true, if_false, List.zip_cons_cons, List.zip_nil_right, List.zip_nil_left, List.foldl_cons, List.foldl_nil, tyf, Bool.or_false, Bool.false_or, Bool.or_true, Bool.true_or, Bool.or_self, t_8, needs_pos q4, tx_add, needs_pos q5]
  rw [full, finO_rt, fin_same rfl]
theorem wrap {l : List D} (hl : (plainLs l).length ≤ 100000) : (tx [40]).length + (tx (plainLs l)).length ≤ 16777216 ∧ (tx (40 :: plainLs l)).length + (tx [41]).length ≤ 16777216 := by
  rw [tx_len, tx_len, tx_len, tx_len]
  simp only [List.length_cons, List.length_nil, List.length_append]
  omega
theorem joined {l : List D} {f : D → List Nat} (hl : (TL.joinL [32] (l.map f)).length ≤ 100000) :
    strsOf (l.map fun d => D.str (tx (f d))) = some ((l.map f).map tx) ∧ (((l.map f).map tx).map (·.length)).sum + ((l.map f).map tx).length * (tx [32]).length ≤ 16777216 := by
  constructor
  · have := strs_map ((l.map f).map tx)
    rw [show (l.map fun d => D.str (tx (f d))) = ((l.map f).map tx).map D.str from by rw [List.map_map, List.map_map]; rfl]
    exact this
  · have := joined_len (l.map f)
    have e : ((l.map f).map tx).map (·.length) = (l.map f).map List.length := by
      rw [List.map_map]
      exact List.map_congr_left fun l _ => tx_len l
    rw [e, List.length_map, tx_len]
    simp only [List.length_cons, List.length_nil] at *
    omega
/-- a def shows a value -/
def SH (f k : Nat) (d : D) : Prop := ∀ μ : Mu, (plainL d).length ≤ 90000 → cl k f [d] μ = .ok (.str (tx (plainL d))) μ
theorem comp_show {f k : Nat} {l : List D} {μ : Mu} (h : ∀ d ∈ l, SH f k d) (hl : ∀ d ∈ l, (plainL d).length ≤ 90000) (hn : l.length ≤ 100000) :
    evalE (gg k) (.comp [1] (.nm 1) (.seq (.var 0)) .yes (.call f (.cons (.var 1) .nil))) [some (.tup l), none] μ = .ok (.lst (l.map fun d => D.str (tx (plainL d)))) μ := by
  rw [evalE]
  have ei : evalIt (gg k) (.seq (.var 0)) [some (.tup l), none] μ = .ok (l, none) μ := by simp only [bind_ok, then_ok, next_nx, next_rt, next_br, next_ct, finO_rt, finO_nx, runB, runS, evalE, evalEs, evalT, evalO, evalIt, evalR, assignT, startR, List.map_cons, List.map_nil, List.length_cons, List.length_nil, List.replicate_zero, List.replicate_succ, Nat.zero_add, Nat.reduceAdd, Nat.reduceSub, List.cons_append, List.nil_append, List.append_nil, List.set_cons_zero, List.set_cons_succ, List.getElem?_cons_succ, List.getElem?_cons_zero, idxD, seqD, binD, setIxD, cmpD, truD, bifD, isiD, Int.reduceNeg, Bool.not_true, Bool.not_false, ↓reduceIte, Bool.false_eq_true, Bool.true_eq_false, if_true, if_false, List.zip_cons_cons, List.zip_nil_right, List.zip_nil_left, List.foldl_cons, List.foldl_nil, tyf, Bool.or_false, Bool.false_or, Bool.or_true, Bool.true_or, Bool.or_self, itD]
  rw [ei, bind_ok]
  have c := comp_map (f := fun d μ => match assignT (.nm 1) d (wipeR [some (.tup l), none] [1]) with
        | none => .stuck
        | some ρ' => (evalT (gg k) .yes ρ' μ).bind fun b μ => if b then (evalE (gg k) (.call f (.cons (.var 1) .nil)) ρ' μ).bind fun y μ => .ok (some y) μ else .ok none μ) (g := fun d => D.str (tx (plainL d))) (μ := μ) (ds := l) (acc := []) (fun d hd => by
          have q := h d hd μ (hl d hd)
          unfold cl at q
          simp only [bind_ok, then_ok, next_nx, next_rt, next_br, next_ct, finO_rt, finO_nx, runB, runS, evalE, evalEs, evalT, evalO, evalIt, evalR, assignT, startR, List.map_cons, List.map_nil, List.length_cons, List.length_nil, List.replicate_zero, List.replicate_succ, Nat.zero_add, Nat.reduceAdd, Nat.reduceSub, List.cons_append, List.nil_append, List.append_nil, List.set_cons_zero, List.set_cons_succ, List.getElem?_cons_succ, List.getElem?_cons_zero, idxD, seqD, binD, setIxD, cmpD, truD, bifD, isiD, Int.reduceNeg, Bool.not_true, Bool.not_false, ↓reduceIte, Bool.false_eq_true, Bool.true_eq_false, if_true, if_false, List.zip_cons_cons, List.zip_nil_right, List.zip_nil_left, List.foldl_cons, List.foldl_nil, tyf, Bool.or_false, Bool.false_or, Bool.or_true, Bool.true_or, Bool.or_self, wipeR, q]) (by simp only [List.length_nil]; omega)
  exact congrArg (fun r : Res (List D) => r.bind fun (l : List D) (μ : Mu) => Res.ok (D.lst l) μ) c
theorem tup_show {f k : Nat} {l : List D} {μ : Mu} (h : ∀ d ∈ l, SH f k d) (ho : okVs l = true) (hl : (plainLs l).length ≤ 90000) :
    runS (gg k) (.ret (.bin .add (.bin .add (.cst (.str "(")) (.met .join (.cst (.str " ")) (.cons (.comp [1] (.nm 1) (.seq (.var 0)) .yes (.call f (.cons (.var 1) .nil))) .nil))) (.cst (.str ")")))) [some (.tup l), none] μ = .rt (.str (tx (plainL (.tup l)))) μ := by
  have hc := comp_show h (fun d hd => Nat.le_trans (plains_mem d hd) hl) (by have := plains_len ho; omega) (μ := μ)
  generalize E.comp [1] (.nm 1) (.seq (.var 0)) .yes (.call f (.cons (.var 1) .nil)) = ec at hc ⊢
  have hj := joined (l := l) (f := plainL) (by rw [← plainLs_join]; omega)
  have hw := wrap (l := l) (by omega)
  have ej : Txt.join (tx [32]) ((l.map plainL).map tx) = tx (plainLs l) := by rw [tx_join, ← plainLs_join]
  have e : plainL (.tup l) = 40 :: (plainLs l ++ [41]) := by rw [plainL]
  rw [e]
  simp only [bind_ok, then_ok, next_nx, next_rt, next_br, next_ct, finO_rt, finO_nx, runB, runS, evalE, evalEs, evalT, evalO, evalIt, evalR, assignT, startR, List.map_cons, List.map_nil, List.length_cons, List.length_nil, List.replicate_zero, List.replicate_succ, Nat.zero_add, Nat.reduceAdd, Nat.reduceSub, List.cons_append, List.nil_append, List.append_nil, List.set_cons_zero, List.set_cons_succ, List.getElem?_cons_succ, List.getElem?_cons_zero, idxD, seqD, binD, setIxD, cmpD, truD, bifD, isiD, Int.reduceNeg, Bool.not_true, Bool.not_false, ↓reduceIte, Bool.false_eq_true, Bool.true_eq_false, if_true, if_false, List.zip_cons_cons, List.zip_nil_right, List.zip_nil_left, List.foldl_cons, List.foldl_nil, tyf, Bool.or_false, Bool.false_or, Bool.or_true, Bool.true_or, Bool.or_self, tyD, needs_pos trivial, hc, metD, t_0, t_1, t_2, Option.bind, hj.1, needs_pos hj.2, ej, needs_pos hw.1, tx_add, needs_pos hw.2]
theorem int_log {i : Int} (h : i.natAbs < 10 ^ 20) : i.natAbs.log2 < 1920 := by
  by_cases h0 : i.natAbs = 0
  · rw [h0]; decide
  · refine (Nat.log2_lt h0).mpr (Nat.lt_trans h ?_)
    decide +kernel
mutual
theorem shown : ∀ {d : D}, okV d = true → ∀ k, dep d + 2 ≤ k → SH n_show_plain k d
  | .non, _, k + 1, _ => fun μ _ => by
    unfold cl
    rw [c_show_plain]
    simp only [b_show_plain, f_show_plain, bind_ok, then_ok, next_nx, next_rt, next_br, next_ct, finO_rt, finO_nx, runB, runS, evalE, evalEs, evalT, evalO, evalIt, evalR, assignT, startR, List.map_cons, List.map_nil, List.length_cons, List.length_nil, List.replicate_zero, List.replicate_succ, Nat.zero_add, Nat.reduceAdd, Nat.reduceSub, List.cons_append, List.nil_append, List.append_nil, List.set_cons_zero, List.set_cons_succ, List.getElem?_cons_succ, List.getElem?_cons_zero, idxD, seqD, binD, setIxD, cmpD, truD, bifD, isiD, Int.reduceNeg, Bool.not_true, Bool.not_false, ↓reduceIte, Bool.false_eq_true, Bool.true_eq_false, if_true, if_false, List.zip_cons_cons, List.zip_nil_right, List.zip_nil_left, List.foldl_cons, List.foldl_nil, tyf, Bool.or_false, Bool.false_or, Bool.or_true, Bool.true_or, Bool.or_self, t_3]
    rw [fin_same rfl] <;> rfl
  | .bl true, _, k + 1, _ => fun μ _ => by
    unfold cl
    rw [c_show_plain]
    simp only [b_show_plain, f_show_plain, bind_ok, then_ok, next_nx, next_rt, next_br, next_ct, finO_rt, finO_nx, runB, runS, evalE, evalEs, evalT, evalO, evalIt, evalR, assignT, startR, List.map_cons, List.map_nil, List.length_cons, List.length_nil, List.replicate_zero, List.replicate_succ, Nat.zero_add, Nat.reduceAdd, Nat.reduceSub, List.cons_append, List.nil_append, List.append_nil, List.set_cons_zero, List.set_cons_succ, List.getElem?_cons_succ, List.getElem?_cons_zero, idxD, seqD, binD, setIxD, cmpD, truD, bifD, isiD, Int.reduceNeg, Bool.not_true, Bool.not_false, ↓reduceIte, Bool.false_eq_true, Bool.true_eq_false, if_true, if_false, List.zip_cons_cons, List.zip_nil_right, List.zip_nil_left, List.foldl_cons, List.foldl_nil, tyf, Bool.or_false, Bool.false_or, Bool.or_true, Bool.true_or, Bool.or_self, t_4, beq_self_eq_true]
    rw [fin_same rfl] <;> rfl
  | .bl false, _, k + 1, _ => fun μ _ => by
    unfold cl
    rw [c_show_plain]
    simp only [b_show_plain, f_show_plain, bind_ok, then_ok, next_nx, next_rt, next_br, next_ct, finO_rt, finO_nx, runB, runS, evalE, evalEs, evalT, evalO, evalIt, evalR, assignT, startR, List.map_cons, List.map_nil, List.length_cons, List.length_nil, List.replicate_zero, List.replicate_succ, Nat.zero_add, Nat.reduceAdd, Nat.reduceSub, List.cons_append, List.nil_append, List.append_nil, List.set_cons_zero, List.set_cons_succ, List.getElem?_cons_succ, List.getElem?_cons_zero, idxD, seqD, binD, setIxD, cmpD, truD, bifD, isiD, Int.reduceNeg, Bool.not_true, Bool.not_false, ↓reduceIte, Bool.false_eq_true, Bool.true_eq_false, if_true, if_false, List.zip_cons_cons, List.zip_nil_right, List.zip_nil_left, List.foldl_cons, List.foldl_nil, tyf, Bool.or_false, Bool.false_or, Bool.or_true, Bool.true_or, Bool.or_self, t_5, beq_self_eq_true, show (false == true) = false from rfl]
    rw [fin_same rfl] <;> rfl
  | .int i, h, k + 1, _ => fun μ _ => by
    have q := int_log (i := i) (by simpa only [okV, decide_eq_true_eq] using h)
    unfold cl
    rw [c_show_plain]
    simp only [b_show_plain, f_show_plain, bind_ok, then_ok, next_nx, next_rt, next_br, next_ct, finO_rt, finO_nx, runB, runS, evalE, evalEs, evalT, evalO, evalIt, evalR, assignT, startR, List.map_cons, List.map_nil, List.length_cons, List.length_nil, List.replicate_zero, List.replicate_succ, Nat.zero_add, Nat.reduceAdd, Nat.reduceSub, List.cons_append, List.nil_append, List.append_nil, List.set_cons_zero, List.set_cons_succ, List.getElem?_cons_succ, List.getElem?_cons_zero, idxD, seqD, binD, setIxD, cmpD, truD, bifD, isiD, Int.reduceNeg, Bool.not_true, Bool.not_false, ↓reduceIte, Bool.false_eq_true, Bool.true_eq_false, if_true, if_false, List.zip_cons_cons, List.zip_nil_right, List.zip_nil_left, List.foldl_cons, List.foldl_nil, tyf, Bool.or_false, Bool.false_or, Bool.or_true, Bool.true_or, Bool.or_self, needs_pos q, tx_int]
    rw [fin_same rfl] <;> rfl
  | .str s, h, k + 2, _ => fun μ hl => by
    have hle := esc_le s.cps.toList
    simp only [plainL, List.length_cons, List.length_append] at hl
    have q := show_quoted_ok (k := k) (l := s.cps.toList) (μ := μ) (by omega)
    rw [← tx_self s] at q
    unfold cl at *
    rw [c_show_plain]
    simp only [b_show_plain, f_show_plain, bind_ok, then_ok, next_nx, next_rt, next_br, next_ct, finO_rt, finO_nx, runB, runS, evalE, evalEs, evalT, evalO, evalIt, evalR, assignT, startR, List.map_cons, List.map_nil, List.length_cons, List.length_nil, List.replicate_zero, List.replicate_succ, Nat.zero_add, Nat.reduceAdd, Nat.reduceSub, List.cons_append, List.nil_append, List.append_nil, List.set_cons_zero, List.set_cons_succ, List.getElem?_cons_succ, List.getElem?_cons_zero, idxD, seqD, binD, setIxD, cmpD, truD, bifD, isiD, Int.reduceNeg, Bool.not_true, Bool.not_false, ↓reduceIte, Bool.false_eq_true, Bool.true_eq_false, if_true, if_false, List.zip_cons_cons, List.zip_nil_right, List.zip_nil_left, List.foldl_cons, List.foldl_nil, tyf, Bool.or_false, Bool.false_or, Bool.or_true, Bool.true_or, Bool.or_self, q]
    rw [fin_same rfl, plainL]
  | .tup l, h, k + 1, hk => fun μ hl => by
    have hh := shownS h k (by simp only [dep] at hk; omega)
    simp only [plainL, List.length_cons, List.length_append] at hl
    have q := tup_show (μ := μ) hh h (by omega)
    unfold cl
    rw [c_show_plain]
    have full : runB (gg k) b_show_plain (startR f_show_plain.N.length [.tup l]) μ = .rt (.str (tx (plainL (.tup l)))) μ := by
      unfold b_show_plain
      refine run_nx (ρ' := [some (.tup l), none]) (μ' := μ) ?_ ?_
      · simp only [f_show_plain, bind_ok, then_ok, next_nx, next_rt, next_br, next_ct, finO_rt, finO_nx, runB, runS, evalE, evalEs, evalT, evalO, evalIt, evalR, assignT, startR, List.map_cons, List.map_nil, List.length_cons, List.length_nil, List.replicate_zero, List.replicate_succ, Nat.zero_add, Nat.reduceAdd, Nat.reduceSub, List.cons_append, List.nil_append, List.append_nil, List.set_cons_zero, List.set_cons_succ, List.getElem?_cons_succ, List.getElem?_cons_zero, idxD, seqD, binD, setIxD, cmpD, truD, bifD, isiD, Int.reduceNeg, Bool.not_true, Bool.not_false, ↓reduceIte, Bool.false_eq_true, Bool.true_eq_false, if_true, if_false, List.zip_cons_cons, List.zip_nil_right, List.zip_nil_left, List.foldl_cons, List.foldl_nil, tyf, Bool.or_false, Bool.false_or, Bool.or_true, Bool.true_or, Bool.or_self]
      refine run_rt (μ' := μ) ?_
      rw [runS]
      have et : evalT (gg k) (.val (.isi (.var 0) .tuple)) [some (.tup l), none] μ = .ok true μ := by simp only [bind_ok, then_ok, next_nx, next_rt, next_br, next_ct, finO_rt, finO_nx, runB, runS, evalE, evalEs, evalT, evalO, evalIt, evalR, assignT, startR, List.map_cons, List.map_nil, List.length_cons, List.length_nil, List.replicate_zero, List.replicate_succ, Nat.zero_add, Nat.reduceAdd, Nat.reduceSub, List.cons_append, List.nil_append, List.append_nil, List.set_cons_zero, List.set_cons_succ, List.getElem?_cons_succ, List.getElem?_cons_zero, idxD, seqD, binD, setIxD, cmpD, truD, bifD, isiD, Int.reduceNeg, Bool.not_true, Bool.not_false, ↓reduceIte, Bool.false_eq_true, Bool.true_eq_false, if_true, if_false, List.zip_cons_cons, List.zip_nil_right, List.zip_nil_left, List.foldl_cons, List.foldl_nil, tyf, Bool.or_false, Bool.false_or, Bool.or_true, Bool.true_or, Bool.or_self]
      rw [et, then_ok, if_pos rfl]
      exact run_rt q
    rw [full, finO_rt, fin_same rfl]
  | .ref _, h, _, _ => by cases h
  | .lst _, h, _, _ => by cases h
theorem shownS : ∀ {l : List D}, okVs l = true → ∀ k, deps l + 2 ≤ k → ∀ d ∈ l, SH n_show_plain k d
  | [], _, _, _, d, hd => by cases hd
  | e :: l, h, k, hk, d, hd => by
    have h' : okV e = true ∧ okVs l = true := by simpa only [okVs, Bool.and_eq_true] using h
    simp only [deps] at hk
    rcases List.mem_cons.mp hd with q | q
    · rw [q]
      exact shown h'.1 k (by omega)
    · exact shownS h'.2 k (by omega) d q
end
end PyI.K30
namespace PyI.K30
open PySem L2
theorem quote_ret {k : Nat} {s : Str} {μ : Mu} (hl : s.cps.toList.length ≤ 100000) : runS (gg k) (.retR "\"" (.repl (.repl (.repl (.base (.var 0)) "\\" "\\\\") "\"" "\\\"") "\n" "\\n") "\"") [some (.str s), none] μ = .rt (.str (tx (plainL (.str s)))) μ := by
  have one : ∀ (y a b : Nat) (l : List Nat), (StrLaws.replL [y] [a, b] l).length ≤ 2 * l.length := by
    intro y a b l
    induction l with
    | nil => rw [StrLaws.replL_nil]; exact Nat.le_refl _
    | cons c r ih =>
      by_cases h : c = y
      · rw [StrLaws.replL_hit (by simp) (by simp [h])]
        simp at *
        omega
      · rw [StrLaws.replL_miss (by simpa using h)]
        simp
        omega
  have ep : plainL (.str s) = 34 :: (s.cps.toList.flatMap escT ++ [34]) := by rw [plainL]
  rw [ep, tx_self s, tx_l]
  generalize s.cps.toList = l at *
  have l1 := one 92 92 92 l
  have l2 := one 34 92 34 (StrLaws.replL [92] [92, 92] l)
  have hle := esc_le l
  have q1 : (tx l).length + ((tx l).length + 1) * (tx [92, 92]).length ≤ 16777216 := by
    rw [tx_len, tx_len]; simp only [List.length_cons, List.length_nil]; omega
  have q2 : (tx (StrLaws.replL [92] [92, 92] l)).length + ((tx (StrLaws.replL [92] [92, 92] l)).length + 1) * (tx [92, 34]).length ≤ 16777216 := by
    rw [tx_len, tx_len]; simp only [List.length_cons, List.length_nil]; omega
  have q3 : (tx (StrLaws.replL [34] [92, 34] (StrLaws.replL [92] [92, 92] l))).length + ((tx (StrLaws.replL [34] [92, 34] (StrLaws.replL [92] [92, 92] l))).length + 1) * (tx [92, 110]).length ≤ 16777216 := by
    rw [tx_len, tx_len]; simp only [List.length_cons, List.length_nil]; omega
  have q4 : (tx [34]).length + (tx (l.flatMap escT)).length ≤ 16777216 := by rw [tx_len, tx_len]; simp only [List.length_cons, List.length_nil]; omega
  have q5 : (tx (34 :: l.flatMap escT)).length + (tx [34]).length ≤ 16777216 := by rw [tx_len, tx_len]; simp only [List.length_cons, List.length_nil, List.length_append]; omega
  simp only [bind_ok, then_ok, next_nx, next_rt, next_br, next_ct, finO_rt, finO_nx, runB, runS, evalE, evalEs, evalT, evalO, evalIt, evalR, assignT, startR, List.map_cons, List.map_nil, List.length_cons, List.length_nil, List.replicate_zero, List.replicate_succ, Nat.zero_add, Nat.reduceAdd, Nat.reduceSub, List.cons_append, List.nil_append, List.append_nil, List.set_cons_zero, List.set_cons_succ, List.getElem?_cons_succ, List.getElem?_cons_zero, idxD, seqD, binD, setIxD, cmpD, truD, bifD, isiD, Int.reduceNeg, Bool.not_true, Bool.not_false, ↓reduceIte, Bool.false_eq_true, Bool.true_eq_false, if_true, if_false, List.zip_cons_cons, List.zip_nil_right, List.zip_nil_left, List.foldl_cons, List.foldl_nil, tyf, Bool.or_false, Bool.false_or, Bool.or_true, Bool.true_or, Bool.or_self, replD, t_6, t_7, t_8, t_9, t_10, t_11, needs_pos q1, tx_repl _ [92] [92, 92] (by simp), needs_pos q2, tx_repl _ [34] [92, 34] (by simp), needs_pos q3, tx_repl _ [10] [92, 110] (by simp), esc_repl, needs_pos q4, tx_add, needs_pos q5]
mutual
theorem plained : ∀ {d : D}, okV d = true → ∀ k, dep d + 2 ≤ k → SH n_law_plain k d
  | .non, _, k + 1, _ => fun μ _ => by
    unfold cl
    rw [c_law_plain]
    simp only [b_law_plain, f_law_plain, bind_ok, then_ok, next_nx, next_rt, next_br, next_ct, finO_rt, finO_nx, runB, runS, evalE, evalEs, evalT, evalO, evalIt, evalR, assignT, startR, List.map_cons, List.map_nil, List.length_cons, List.length_nil, List.replicate_zero, List.replicate_succ, Nat.zero_add, Nat.reduceAdd, Nat.reduceSub, List.cons_append, List.nil_append, List.append_nil, List.set_cons_zero, List.set_cons_succ, List.getElem?_cons_succ, List.getElem?_cons_zero, idxD, seqD, binD, setIxD, cmpD, truD, bifD, isiD, Int.reduceNeg, Bool.not_true, Bool.not_false, ↓reduceIte, Bool.false_eq_true, Bool.true_eq_false, if_true, if_false, List.zip_cons_cons, List.zip_nil_right, List.zip_nil_left, List.foldl_cons, List.foldl_nil, tyf, Bool.or_false, Bool.false_or, Bool.or_true, Bool.true_or, Bool.or_self, t_3]
    rw [fin_same rfl] <;> rfl
  | .bl true, _, k + 1, _ => fun μ _ => by
    unfold cl
    rw [c_law_plain]
    simp only [b_law_plain, f_law_plain, bind_ok, then_ok, next_nx, next_rt, next_br, next_ct, finO_rt, finO_nx, runB, runS, evalE, evalEs, evalT, evalO, evalIt, evalR, assignT, startR, List.map_cons, List.map_nil, List.length_cons, List.length_nil, List.replicate_zero, List.replicate_succ, Nat.zero_add, Nat.reduceAdd, Nat.reduceSub, List.cons_append, List.nil_append, List.append_nil, List.set_cons_zero, List.set_cons_succ, List.getElem?_cons_succ, List.getElem?_cons_zero, idxD, seqD, binD, setIxD, cmpD, truD, bifD, isiD, Int.reduceNeg, Bool.not_true, Bool.not_false, ↓reduceIte, Bool.false_eq_true, Bool.true_eq_false, if_true, if_false, List.zip_cons_cons, List.zip_nil_right, List.zip_nil_left, List.foldl_cons, List.foldl_nil, tyf, Bool.or_false, Bool.false_or, Bool.or_true, Bool.true_or, Bool.or_self, t_4, beq_self_eq_true]
    rw [fin_same rfl] <;> rfl
  | .bl false, _, k + 1, _ => fun μ _ => by
    unfold cl
    rw [c_law_plain]
    simp only [b_law_plain, f_law_plain, bind_ok, then_ok, next_nx, next_rt, next_br, next_ct, finO_rt, finO_nx, runB, runS, evalE, evalEs, evalT, evalO, evalIt, evalR, assignT, startR, List.map_cons, List.map_nil, List.length_cons, List.length_nil, List.replicate_zero, List.replicate_succ, Nat.zero_add, Nat.reduceAdd, Nat.reduceSub, List.cons_append, List.nil_append, List.append_nil, List.set_cons_zero, List.set_cons_succ, List.getElem?_cons_succ, List.getElem?_cons_zero, idxD, seqD, binD, setIxD, cmpD, truD, bifD, isiD, Int.reduceNeg, Bool.not_true, Bool.not_false, ↓reduceIte, Bool.false_eq_true, Bool.true_eq_false, if_true, if_false, List.zip_cons_cons, List.zip_nil_right, List.zip_nil_left, List.foldl_cons, List.foldl_nil, tyf, Bool.or_false, Bool.false_or, Bool.or_true, Bool.true_or, Bool.or_self, t_5, beq_self_eq_true, show (false == true) = false from rfl]
    rw [fin_same rfl] <;> rfl
  | .int i, h, k + 1, _ => fun μ _ => by
    have q := int_log (i := i) (by simpa only [okV, decide_eq_true_eq] using h)
    unfold cl
    rw [c_law_plain]
    simp only [b_law_plain, f_law_plain, bind_ok, then_ok, next_nx, next_rt, next_br, next_ct, finO_rt, finO_nx, runB, runS, evalE, evalEs, evalT, evalO, evalIt, evalR, assignT, startR, List.map_cons, List.map_nil, List.length_cons, List.length_nil, List.replicate_zero, List.replicate_succ, Nat.zero_add, Nat.reduceAdd, Nat.reduceSub, List.cons_append, List.nil_append, List.append_nil, List.set_cons_zero, List.set_cons_succ, List.getElem?_cons_succ, List.getElem?_cons_zero, idxD, seqD, binD, setIxD, cmpD, truD, bifD, isiD, Int.reduceNeg, Bool.not_true, Bool.not_false, ↓reduceIte, Bool.false_eq_true, Bool.true_eq_false, if_true, if_false, List.zip_cons_cons, List.zip_nil_right, List.zip_nil_left, List.foldl_cons, List.foldl_nil, tyf, Bool.or_false, Bool.false_or, Bool.or_true, Bool.true_or, Bool.or_self, needs_pos q, tx_int]
    rw [fin_same rfl] <;> rfl
  | .str s, h, k + 2, _ => fun μ hl => by
    have hle := esc_le s.cps.toList
    simp only [plainL, List.length_cons, List.length_append] at hl
    have q := quote_ret (k := k + 1) (s := s) (μ := μ) (by omega)
    unfold cl at *
    rw [c_law_plain]
    have full : runB (gg (k + 1)) b_law_plain (startR f_law_plain.N.length [.str s]) μ = .rt (.str (tx (plainL (.str s)))) μ := by
      unfold b_law_plain
      refine run_nx (ρ' := [some (.str s), none]) (μ' := μ) ?_ ?_
      · simp only [f_law_plain, bind_ok, then_ok, next_nx, next_rt, next_br, next_ct, finO_rt, finO_nx, runB, runS, evalE, evalEs, evalT, evalO, evalIt, evalR, assignT, startR, List.map_cons, List.map_nil, List.length_cons, List.length_nil, List.replicate_zero, List.replicate_succ, Nat.zero_add, Nat.reduceAdd, Nat.reduceSub, List.cons_append, List.nil_append, List.append_nil, List.set_cons_zero, List.set_cons_succ, List.getElem?_cons_succ, List.getElem?_cons_zero, idxD, seqD, binD, setIxD, cmpD, truD, bifD, isiD, Int.reduceNeg, Bool.not_true, Bool.not_false, ↓reduceIte, Bool.false_eq_true, Bool.true_eq_false, if_true, if_false, List.zip_cons_cons, List.zip_nil_right, List.zip_nil_left, List.foldl_cons, List.foldl_nil, tyf, Bool.or_false, Bool.false_or, Bool.or_true, Bool.true_or, Bool.or_self]
      refine run_nx (ρ' := [some (.str s), none]) (μ' := μ) ?_ ?_
      · simp only [bind_ok, then_ok, next_nx, next_rt, next_br, next_ct, finO_rt, finO_nx, runB, runS, evalE, evalEs, evalT, evalO, evalIt, evalR, assignT, startR, List.map_cons, List.map_nil, List.length_cons, List.length_nil, List.replicate_zero, List.replicate_succ, Nat.zero_add, Nat.reduceAdd, Nat.reduceSub, List.cons_append, List.nil_append, List.append_nil, List.set_cons_zero, List.set_cons_succ, List.getElem?_cons_succ, List.getElem?_cons_zero, idxD, seqD, binD, setIxD, cmpD, truD, bifD, isiD, Int.reduceNeg, Bool.not_true, Bool.not_false, ↓reduceIte, Bool.false_eq_true, Bool.true_eq_false, if_true, if_false, List.zip_cons_cons, List.zip_nil_right, List.zip_nil_left, List.foldl_cons, List.foldl_nil, tyf, Bool.or_false, Bool.false_or, Bool.or_true, Bool.true_or, Bool.or_self]
      refine run_nx (ρ' := [some (.str s), none]) (μ' := μ) ?_ ?_
      · simp only [bind_ok, then_ok, next_nx, next_rt, next_br, next_ct, finO_rt, finO_nx, runB, runS, evalE, evalEs, evalT, evalO, evalIt, evalR, assignT, startR, List.map_cons, List.map_nil, List.length_cons, List.length_nil, List.replicate_zero, List.replicate_succ, Nat.zero_add, Nat.reduceAdd, Nat.reduceSub, List.cons_append, List.nil_append, List.append_nil, List.set_cons_zero, List.set_cons_succ, List.getElem?_cons_succ, List.getElem?_cons_zero, idxD, seqD, binD, setIxD, cmpD, truD, bifD, isiD, Int.reduceNeg, Bool.not_true, Bool.not_false, ↓reduceIte, Bool.false_eq_true, Bool.true_eq_false, if_true, if_false, List.zip_cons_cons, List.zip_nil_right, List.zip_nil_left, List.foldl_cons, List.foldl_nil, tyf, Bool.or_false, Bool.false_or, Bool.or_true, Bool.true_or, Bool.or_self]
      refine run_nx (ρ' := [some (.str s), none]) (μ' := μ) ?_ ?_
      · simp only [bind_ok, then_ok, next_nx, next_rt, next_br, next_ct, finO_rt, finO_nx, runB, runS, evalE, evalEs, evalT, evalO, evalIt, evalR, assignT, startR, List.map_cons, List.map_nil, List.length_cons, List.length_nil, List.replicate_zero, List.replicate_succ, Nat.zero_add, Nat.reduceAdd, Nat.reduceSub, List.cons_append, List.nil_append, List.append_nil, List.set_cons_zero, List.set_cons_succ, List.getElem?_cons_succ, List.getElem?_cons_zero, idxD, seqD, binD, setIxD, cmpD, truD, bifD, isiD, Int.reduceNeg, Bool.not_true, Bool.not_false, ↓reduceIte, Bool.false_eq_true, Bool.true_eq_false, if_true, if_false, List.zip_cons_cons, List.zip_nil_right, List.zip_nil_left, List.foldl_cons, List.foldl_nil, tyf, Bool.or_false, Bool.false_or, Bool.or_true, Bool.true_or, Bool.or_self]
      refine run_nx (ρ' := [some (.str s), none]) (μ' := μ) ?_ ?_
      · simp only [bind_ok, then_ok, next_nx, next_rt, next_br, next_ct, finO_rt, finO_nx, runB, runS, evalE, evalEs, evalT, evalO, evalIt, evalR, assignT, startR, List.map_cons, List.map_nil, List.length_cons, List.length_nil, List.replicate_zero, List.replicate_succ, Nat.zero_add, Nat.reduceAdd, Nat.reduceSub, List.cons_append, List.nil_append, List.append_nil, List.set_cons_zero, List.set_cons_succ, List.getElem?_cons_succ, List.getElem?_cons_zero, idxD, seqD, binD, setIxD, cmpD, truD, bifD, isiD, Int.reduceNeg, Bool.not_true, Bool.not_false, ↓reduceIte, Bool.false_eq_true, Bool.true_eq_false, if_true, if_false, List.zip_cons_cons, List.zip_nil_right, List.zip_nil_left, List.foldl_cons, List.foldl_nil, tyf, Bool.or_false, Bool.false_or, Bool.or_true, Bool.true_or, Bool.or_self]
      exact run_rt q
    rw [full, finO_rt, fin_same rfl]
  | .tup l, h, k + 1, hk => fun μ hl => by
    have hh := plainedS h k (by simp only [dep] at hk; omega)
    simp only [plainL, List.length_cons, List.length_append] at hl
    have q := tup_show (μ := μ) hh h (by omega)
    unfold cl
    rw [c_law_plain]
    have full : runB (gg k) b_law_plain (startR f_law_plain.N.length [.tup l]) μ = .rt (.str (tx (plainL (.tup l)))) μ := by
      unfold b_law_plain
      refine run_nx (ρ' := [some (.tup l), none]) (μ' := μ) ?_ ?_
      · simp only [f_law_plain, bind_ok, then_ok, next_nx, next_rt, next_br, next_ct, finO_rt, finO_nx, runB, runS, evalE, evalEs, evalT, evalO, evalIt, evalR, assignT, startR, List.map_cons, List.map_nil, List.length_cons, List.length_nil, List.replicate_zero, List.replicate_succ, Nat.zero_add, Nat.reduceAdd, Nat.reduceSub, List.cons_append, List.nil_append, List.append_nil, List.set_cons_zero, List.set_cons_succ, List.getElem?_cons_succ, List.getElem?_cons_zero, idxD, seqD, binD, setIxD, cmpD, truD, bifD, isiD, Int.reduceNeg, Bool.not_true, Bool.not_false, ↓reduceIte, Bool.false_eq_true, Bool.true_eq_false, if_true, if_false, List.zip_cons_cons, List.zip_nil_right, List.zip_nil_left, List.foldl_cons, List.foldl_nil, tyf, Bool.or_false, Bool.false_or, Bool.or_true, Bool.true_or, Bool.or_self]
      refine run_nx (ρ' := [some (.tup l), none]) (μ' := μ) ?_ ?_
      · simp only [bind_ok, then_ok, next_nx, next_rt, next_br, next_ct, finO_rt, finO_nx, runB, runS, evalE, evalEs, evalT, evalO, evalIt, evalR, assignT, startR, List.map_cons, List.map_nil, List.length_cons, List.length_nil, List.replicate_zero, List.replicate_succ, Nat.zero_add, Nat.reduceAdd, Nat.reduceSub, List.cons_append, List.nil_append, List.append_nil, List.set_cons_zero, List.set_cons_succ, List.getElem?_cons_succ, List.getElem?_cons_zero, idxD, seqD, binD, setIxD, cmpD, truD, bifD, isiD, Int.reduceNeg, Bool.not_true, Bool.not_false, ↓reduceIte, Bool.false_eq_true, Bool.true_eq_false, if_true, if_false, List.zip_cons_cons, List.zip_nil_right, List.zip_nil_left, List.foldl_cons, List.foldl_nil, tyf, Bool.or_false, Bool.false_or, Bool.or_true, Bool.true_or, Bool.or_self]
      refine run_nx (ρ' := [some (.tup l), none]) (μ' := μ) ?_ ?_
      · simp only [bind_ok, then_ok, next_nx, next_rt, next_br, next_ct, finO_rt, finO_nx, runB, runS, evalE, evalEs, evalT, evalO, evalIt, evalR, assignT, startR, List.map_cons, List.map_nil, List.length_cons, List.length_nil, List.replicate_zero, List.replicate_succ, Nat.zero_add, Nat.reduceAdd, Nat.reduceSub, List.cons_append, List.nil_append, List.append_nil, List.set_cons_zero, List.set_cons_succ, List.getElem?_cons_succ, List.getElem?_cons_zero, idxD, seqD, binD, setIxD, cmpD, truD, bifD, isiD, Int.reduceNeg, Bool.not_true, Bool.not_false, ↓reduceIte, Bool.false_eq_true, Bool.true_eq_false, if_true, if_false, List.zip_cons_cons, List.zip_nil_right, List.zip_nil_left, List.foldl_cons, List.foldl_nil, tyf, Bool.or_false, Bool.false_or, Bool.or_true, Bool.true_or, Bool.or_self]
      refine run_nx (ρ' := [some (.tup l), none]) (μ' := μ) ?_ ?_
      · simp only [bind_ok, then_ok, next_nx, next_rt, next_br, next_ct, finO_rt, finO_nx, runB, runS, evalE, evalEs, evalT, evalO, evalIt, evalR, assignT, startR, List.map_cons, List.map_nil, List.length_cons, List.length_nil, List.replicate_zero, List.replicate_succ, Nat.zero_add, Nat.reduceAdd, Nat.reduceSub, List.cons_append, List.nil_append, List.append_nil, List.set_cons_zero, List.set_cons_succ, List.getElem?_cons_succ, List.getElem?_cons_zero, idxD, seqD, binD, setIxD, cmpD, truD, bifD, isiD, Int.reduceNeg, Bool.not_true, Bool.not_false, ↓reduceIte, Bool.false_eq_true, Bool.true_eq_false, if_true, if_false, List.zip_cons_cons, List.zip_nil_right, List.zip_nil_left, List.foldl_cons, List.foldl_nil, tyf, Bool.or_false, Bool.false_or, Bool.or_true, Bool.true_or, Bool.or_self]
      refine run_rt (μ' := μ) ?_
      rw [runS]
      have et : evalT (gg k) (.val (.isi (.var 0) .tuple)) [some (.tup l), none] μ = .ok true μ := by simp only [bind_ok, then_ok, next_nx, next_rt, next_br, next_ct, finO_rt, finO_nx, runB, runS, evalE, evalEs, evalT, evalO, evalIt, evalR, assignT, startR, List.map_cons, List.map_nil, List.length_cons, List.length_nil, List.replicate_zero, List.replicate_succ, Nat.zero_add, Nat.reduceAdd, Nat.reduceSub, List.cons_append, List.nil_append, List.append_nil, List.set_cons_zero, List.set_cons_succ, List.getElem?_cons_succ, List.getElem?_cons_zero, idxD, seqD, binD, setIxD, cmpD, truD, bifD, isiD, Int.reduceNeg, Bool.not_true, Bool.not_false, ↓reduceIte, Bool.false_eq_true, Bool.true_eq_false, if_true, if_false, List.zip_cons_cons, List.zip_nil_right, List.zip_nil_left, List.foldl_cons, List.foldl_nil, tyf, Bool.or_false, Bool.false_or, Bool.or_true, Bool.true_or, Bool.or_self]
      rw [et, then_ok, if_pos rfl]
      exact run_rt q
    rw [full, finO_rt, fin_same rfl]
  | .ref _, h, _, _ => by cases h
  | .lst _, h, _, _ => by cases h
theorem plainedS : ∀ {l : List D}, okVs l = true → ∀ k, deps l + 2 ≤ k → ∀ d ∈ l, SH n_law_plain k d
  | [], _, _, _, d, hd => by cases hd
  | e :: l, h, k, hk, d, hd => by
    have h' : okV e = true ∧ okVs l = true := by simpa only [okVs, Bool.and_eq_true] using h
    simp only [deps] at hk
    rcases List.mem_cons.mp hd with q | q
    · rw [q]
      exact plained h'.1 k (by omega)
    · exact plainedS h'.2 k (by omega) d q
end
/-! ### the same -/
theorem same_str {k : Nat} {s : Str} {μ : Mu} (h : s.cps.all (· < 0x110000) = true) : cl (k + 1) n_law_same [.str s, .str s] μ = .ok (.bl true) μ := by
  have q : eqOk 64 (.str s) = true ∧ eqOk 64 (.str s) = true := ⟨by simp only [eqOk, h], by simp only [eqOk, h]⟩
  unfold cl
  rw [c_law_same]
  simp only [b_law_same, f_law_same, bind_ok, then_ok, next_nx, next_rt, next_br, next_ct, finO_rt, finO_nx, runB, runS, evalE, evalEs, evalT, evalO, evalIt, evalR, assignT, startR, List.map_cons, List.map_nil, List.length_cons, List.length_nil, List.replicate_zero, List.replicate_succ, Nat.zero_add, Nat.reduceAdd, Nat.reduceSub, List.cons_append, List.nil_append, List.append_nil, List.set_cons_zero, List.set_cons_succ, List.getElem?_cons_succ, List.getElem?_cons_zero, idxD, seqD, binD, setIxD, cmpD, truD, bifD, isiD, Int.reduceNeg, Bool.not_true, Bool.not_false, ↓reduceIte, Bool.false_eq_true, Bool.true_eq_false, if_true, if_false, List.zip_cons_cons, List.zip_nil_right, List.zip_nil_left, List.foldl_cons, List.foldl_nil, tyf, Bool.or_false, Bool.false_or, Bool.or_true, Bool.true_or, Bool.or_self, deref, needs_pos q, eqD, beq_self_eq_true]
  rw [fin_same rfl]
theorem sgn_uni {l : List Nat} (h : l.all sgn = true) : l.all (· < 0x110000) = true := by
  rw [List.all_eq_true] at *
  intro c hc
  have := h c hc
  simp only [sgn, Bool.or_eq_true, Bool.and_eq_true, decide_eq_true_eq, beq_iff_eq] at this
  simp
  omega
theorem plains_cons (e : D) (l : List D) : (plainL e).length ≤ (plainLs (e :: l)).length ∧ (plainLs l).length ≤ (plainLs (e :: l)).length := by
  cases l with
  | nil => simp [plainLs]
  | cons f r =>
    simp only [plainLs, List.length_append, List.length_cons]
    omega
theorem at_mem {α : Type} {l : List α} {i : Nat} (h : i < l.length) : atI l ((0 : Int) + (i : Int)) = some l[i] := by
  unfold atI ixN
  rw [if_pos (by omega), if_pos (by omega)]
  show l[((0 : Int) + (i : Int)).toNat]? = _
  rw [show ((0 : Int) + (i : Int)).toNat = i by omega, List.getElem?_eq_getElem h]
theorem same_tup {l : List D} {k : Nat} {μ : Mu} (h : okVs l = true) (hl : (plainL (.tup l)).length ≤ 90000) (hh : ∀ d ∈ l, cl k n_law_same [d, d] μ = .ok (.bl true) μ) : cl (k + 1) n_law_same [.tup l, .tup l] μ = .ok (.bl true) μ := by
  simp only [plainL, List.length_cons, List.length_append] at hl
  have hlen := plains_len h
  have qi : eqOk 64 (.int (l.length : Int)) = true ∧ eqOk 64 (.int (l.length : Int)) = true := ⟨rfl, rfl⟩
  unfold cl
  rw [c_law_same]
  have loop := for_range (f := fun d ρ μ => match assignT (.nm 2) d ρ with
    | some ρ' => runB (gg k) (.cons (.ifs (.not (.val (.call 13 (.cons (.idx (.var 0) (.var 2)) (.cons (.idx (.var 1) (.var 2)) .nil))))) (.cons (.ret (.cst (.bl false)))
  .nil) .nil)
  .nil) ρ' μ
    | none => .stuck) (lo := 0) (n := l.length) (ρ := [some (.tup l), some (.tup l), none]) (μ := μ) (fun _ ρ ν => ν = μ ∧ ∃ o, ρ = [some (.tup l), some (.tup l), o]) ⟨rfl, none, rfl⟩ (by
      rintro i hi ρ ν ⟨rfl, o, rfl⟩
      have qa := at_mem hi
      have qc := hh _ (List.getElem_mem hi)
      unfold cl at qc
      refine .inl ⟨[some (.tup l), some (.tup l), some (.int ((0 : Int) + (i : Int)))], ν, ?_, rfl, _, rfl⟩
      generalize (0 : Int) + (i : Int) = j at qa ⊢
      simp only [bind_ok, then_ok, next_nx, next_rt, next_br, next_ct, finO_rt, finO_nx, runB, runS, evalE, evalEs, evalT, evalO, evalIt, evalR, assignT, startR, List.map_cons, List.map_nil, List.length_cons, List.length_nil, List.replicate_zero, List.replicate_succ, Nat.zero_add, Nat.reduceAdd, Nat.reduceSub, List.cons_append, List.nil_append, List.append_nil, List.set_cons_zero, List.set_cons_succ, List.getElem?_cons_succ, List.getElem?_cons_zero, idxD, seqD, binD, setIxD, cmpD, truD, bifD, isiD, Int.reduceNeg, Bool.not_true, Bool.not_false, ↓reduceIte, Bool.false_eq_true, Bool.true_eq_false, if_true, if_false, List.zip_cons_cons, List.zip_nil_right, List.zip_nil_left, List.foldl_cons, List.foldl_nil, tyf, Bool.or_false, Bool.false_or, Bool.or_true, Bool.true_or, Bool.or_self, qa, qc])
  obtain ⟨ρ', μ', e, rfl, o, rfl⟩ := loop
  have full : runB (gg k) b_law_same (startR f_law_same.N.length [.tup l, .tup l]) μ' = .rt (.bl true) μ' := by
    unfold b_law_same
    refine run_rt (μ' := μ') ?_
    show runS (gg k) _ [some (.tup l), some (.tup l), none] μ' = _
    rw [runS]
    have et : evalT (gg k) (.val (.isi (.var 1) .tuple)) [some (.tup l), some (.tup l), none] μ' = .ok true μ' := by simp only [bind_ok, then_ok, next_nx, next_rt, next_br, next_ct, finO_rt, finO_nx, runB, runS, evalE, evalEs, evalT, evalO, evalIt, evalR, assignT, startR, List.map_cons, List.map_nil, List.length_cons, List.length_nil, List.replicate_zero, List.replicate_succ, Nat.zero_add, Nat.reduceAdd, Nat.reduceSub, List.cons_append, List.nil_append, List.append_nil, List.set_cons_zero, List.set_cons_succ, List.getElem?_cons_succ, List.getElem?_cons_zero, idxD, seqD, binD, setIxD, cmpD, truD, bifD, isiD, Int.reduceNeg, Bool.not_true, Bool.not_false, ↓reduceIte, Bool.false_eq_true, Bool.true_eq_false, if_true, if_false, List.zip_cons_cons, List.zip_nil_right, List.zip_nil_left, List.foldl_cons, List.foldl_nil, tyf, Bool.or_false, Bool.false_or, Bool.or_true, Bool.true_or, Bool.or_self]
    rw [et, then_ok, if_pos rfl]
    refine run_nx (ρ' := [some (.tup l), some (.tup l), none]) (μ' := μ') ?_ ?_
    · simp only [bind_ok, then_ok, next_nx, next_rt, next_br, next_ct, finO_rt, finO_nx, runB, runS, evalE, evalEs, evalT, evalO, evalIt, evalR, assignT, startR, List.map_cons, List.map_nil, List.length_cons, List.length_nil, List.replicate_zero, List.replicate_succ, Nat.zero_add, Nat.reduceAdd, Nat.reduceSub, List.cons_append, List.nil_append, List.append_nil, List.set_cons_zero, List.set_cons_succ, List.getElem?_cons_succ, List.getElem?_cons_zero, idxD, seqD, binD, setIxD, cmpD, truD, bifD, isiD, Int.reduceNeg, Bool.not_true, Bool.not_false, ↓reduceIte, Bool.false_eq_true, Bool.true_eq_false, if_true, if_false, List.zip_cons_cons, List.zip_nil_right, List.zip_nil_left, List.foldl_cons, List.foldl_nil, tyf, Bool.or_false, Bool.false_or, Bool.or_true, Bool.true_or, Bool.or_self, deref, needs_pos qi, eqD, beq_self_eq_true]
    refine run_nx (ρ' := [some (.tup l), some (.tup l), o]) (μ' := μ') ?_ ?_
    · exact for_run (it_rng1 (i := (l.length : Int)) (by simp only [bind_ok, then_ok, next_nx, next_rt, next_br, next_ct, finO_rt, finO_nx, runB, runS, evalE, evalEs, evalT, evalO, evalIt, evalR, assignT, startR, List.map_cons, List.map_nil, List.length_cons, List.length_nil, List.replicate_zero, List.replicate_succ, Nat.zero_add, Nat.reduceAdd, Nat.reduceSub, List.cons_append, List.nil_append, List.append_nil, List.set_cons_zero, List.set_cons_succ, List.getElem?_cons_succ, List.getElem?_cons_zero, idxD, seqD, binD, setIxD, cmpD, truD, bifD, isiD, Int.reduceNeg, Bool.not_true, Bool.not_false, ↓reduceIte, Bool.false_eq_true, Bool.true_eq_false, if_true, if_false, List.zip_cons_cons, List.zip_nil_right, List.zip_nil_left, List.foldl_cons, List.foldl_nil, tyf, Bool.or_false, Bool.false_or, Bool.or_true, Bool.true_or, Bool.or_self]) rfl (by omega)) e
    exact run_rt (by simp only [bind_ok, then_ok, next_nx, next_rt, next_br, next_ct, finO_rt, finO_nx, runB, runS, evalE, evalEs, evalT, evalO, evalIt, evalR, assignT, startR, List.map_cons, List.map_nil, List.length_cons, List.length_nil, List.replicate_zero, List.replicate_succ, Nat.zero_add, Nat.reduceAdd, Nat.reduceSub, List.cons_append, List.nil_append, List.append_nil, List.set_cons_zero, List.set_cons_succ, List.getElem?_cons_succ, List.getElem?_cons_zero, idxD, seqD, binD, setIxD, cmpD, truD, bifD, isiD, Int.reduceNeg, Bool.not_true, Bool.not_false, ↓reduceIte, Bool.false_eq_true, Bool.true_eq_false, if_true, if_false, List.zip_cons_cons, List.zip_nil_right, List.zip_nil_left, List.foldl_cons, List.foldl_nil, tyf, Bool.or_false, Bool.false_or, Bool.or_true, Bool.true_or, Bool.or_self])
  rw [full, finO_rt, fin_same rfl]
mutual
theorem same : ∀ {d : D}, okV d = true → ∀ (k : Nat) (μ : Mu), dep d + 1 ≤ k → (plainL d).length ≤ 90000 → cl k n_law_same [d, d] μ = .ok (.bl true) μ
  | .non, _, k + 1, μ, _, _ => by
    unfold cl
    rw [c_law_same]
    simp only [b_law_same, f_law_same, bind_ok, then_ok, next_nx, next_rt, next_br, next_ct, finO_rt, finO_nx, runB, runS, evalE, evalEs, evalT, evalO, evalIt, evalR, assignT, startR, List.map_cons, List.map_nil, List.length_cons, List.length_nil, List.replicate_zero, List.replicate_succ, Nat.zero_add, Nat.reduceAdd, Nat.reduceSub, List.cons_append, List.nil_append, List.append_nil, List.set_cons_zero, List.set_cons_succ, List.getElem?_cons_succ, List.getElem?_cons_zero, idxD, seqD, binD, setIxD, cmpD, truD, bifD, isiD, Int.reduceNeg, Bool.not_true, Bool.not_false, ↓reduceIte, Bool.false_eq_true, Bool.true_eq_false, if_true, if_false, List.zip_cons_cons, List.zip_nil_right, List.zip_nil_left, List.foldl_cons, List.foldl_nil, tyf, Bool.or_false, Bool.false_or, Bool.or_true, Bool.true_or, Bool.or_self]
    rw [fin_same rfl]
  | .bl true, _, k + 1, μ, _, _ => by
    unfold cl
    rw [c_law_same]
    simp only [b_law_same, f_law_same, bind_ok, then_ok, next_nx, next_rt, next_br, next_ct, finO_rt, finO_nx, runB, runS, evalE, evalEs, evalT, evalO, evalIt, evalR, assignT, startR, List.map_cons, List.map_nil, List.length_cons, List.length_nil, List.replicate_zero, List.replicate_succ, Nat.zero_add, Nat.reduceAdd, Nat.reduceSub, List.cons_append, List.nil_append, List.append_nil, List.set_cons_zero, List.set_cons_succ, List.getElem?_cons_succ, List.getElem?_cons_zero, idxD, seqD, binD, setIxD, cmpD, truD, bifD, isiD, Int.reduceNeg, Bool.not_true, Bool.not_false, ↓reduceIte, Bool.false_eq_true, Bool.true_eq_false, if_true, if_false, List.zip_cons_cons, List.zip_nil_right, List.zip_nil_left, List.foldl_cons, List.foldl_nil, tyf, Bool.or_false, Bool.false_or, Bool.or_true, Bool.true_or, Bool.or_self, beq_self_eq_true]
    rw [fin_same rfl]
  | .bl false, _, k + 1, μ, _, _ => by
    unfold cl
    rw [c_law_same]
    simp only [b_law_same, f_law_same, bind_ok, then_ok, next_nx, next_rt, next_br, next_ct, finO_rt, finO_nx, runB, runS, evalE, evalEs, evalT, evalO, evalIt, evalR, assignT, startR, List.map_cons, List.map_nil, List.length_cons, List.length_nil, List.replicate_zero, List.replicate_succ, Nat.zero_add, Nat.reduceAdd, Nat.reduceSub, List.cons_append, List.nil_append, List.append_nil, List.set_cons_zero, List.set_cons_succ, List.getElem?_cons_succ, List.getElem?_cons_zero, idxD, seqD, binD, setIxD, cmpD, truD, bifD, isiD, Int.reduceNeg, Bool.not_true, Bool.not_false, ↓reduceIte, Bool.false_eq_true, Bool.true_eq_false, if_true, if_false, List.zip_cons_cons, List.zip_nil_right, List.zip_nil_left, List.foldl_cons, List.foldl_nil, tyf, Bool.or_false, Bool.false_or, Bool.or_true, Bool.true_or, Bool.or_self, beq_self_eq_true, show (false == true) = false from rfl]
    rw [fin_same rfl]
  | .int i, h, k + 1, μ, _, _ => by
    have q : eqOk 64 (.int i) = true ∧ eqOk 64 (.int i) = true := ⟨rfl, rfl⟩
    unfold cl
    rw [c_law_same]
    simp only [b_law_same, f_law_same, bind_ok, then_ok, next_nx, next_rt, next_br, next_ct, finO_rt, finO_nx, runB, runS, evalE, evalEs, evalT, evalO, evalIt, evalR, assignT, startR, List.map_cons, List.map_nil, List.length_cons, List.length_nil, List.replicate_zero, List.replicate_succ, Nat.zero_add, Nat.reduceAdd, Nat.reduceSub, List.cons_append, List.nil_append, List.append_nil, List.set_cons_zero, List.set_cons_succ, List.getElem?_cons_succ, List.getElem?_cons_zero, idxD, seqD, binD, setIxD, cmpD, truD, bifD, isiD, Int.reduceNeg, Bool.not_true, Bool.not_false, ↓reduceIte, Bool.false_eq_true, Bool.true_eq_false, if_true, if_false, List.zip_cons_cons, List.zip_nil_right, List.zip_nil_left, List.foldl_cons, List.foldl_nil, tyf, Bool.or_false, Bool.false_or, Bool.or_true, Bool.true_or, Bool.or_self, deref, needs_pos q, eqD, beq_self_eq_true]
    rw [fin_same rfl]
  | .str s, h, k + 1, μ, _, _ => same_str (by
      have := sgn_uni h
      rw [tx_self s, tx_all]
      exact this)
  | .tup l, h, k + 1, μ, hk, hl => same_tup h hl (sames h k μ (by simp only [dep] at hk; omega) (by simp only [plainL, List.length_cons, List.length_append] at hl; omega))
  | .ref _, h, _, _, _, _ => by cases h
  | .lst _, h, _, _, _, _ => by cases h
theorem sames : ∀ {l : List D}, okVs l = true → ∀ (k : Nat) (μ : Mu), deps l + 1 ≤ k → (plainLs l).length ≤ 90000 → ∀ d ∈ l, cl k n_law_same [d, d] μ = .ok (.bl true) μ
  | [], _, _, _, _, _, d, hd => by cases hd
  | e :: l, h, k, μ, hk, hl, d, hd => by
    have hl1 := plains_cons e l
    have h' : okV e = true ∧ okVs l = true := by simpa only [okVs, Bool.and_eq_true] using h
    simp only [deps] at hk
    rcases List.mem_cons.mp hd with q | q
    · rw [q]
      exact same h'.1 k μ (by omega) (by omega)
    · exact sames h'.2 k μ (by omega) (by omega) d q
end
end PyI.K30
namespace PyI.K30
open PySem L2
def dbo : B := (.cons (.ifs (.val (.cmp .gt (.bif .len (.cons (.var 3) .nil)) (.cst (.int 1500)))) (.cons .brk
    .nil) .nil)
    (.cons (.set (.nm 5) (.call 10 (.cons (.var 0) (.cons (.var 4) .nil))))
    (.cons (.ifs (.val (.cmp .lt (.var 5) (.cst (.int 0)))) (.cons (.set (.nm 5) (.bin .sub (.cst (.int 1)) (.bin .mul (.cst (.int 2)) (.var 5))))
    .nil) .nil)
    (.cons (.ifs (.val (.cmp .ge (.var 5) (.bin .pow (.cst (.int 10)) (.cst (.int 18))))) (.cons (.for_ (.nm 6) (.rng1 (.cst (.int 60))) (.cons (.ifs (.val (.cmp .gt (.var 5) (.cst (.int 0)))) (.cons (.expr (.met .append (.var 3) (.cons (.bin .mod (.bif .int (.cons (.var 5) .nil)) (.cst (.int 1000))) .nil)))
    (.cons (.set (.nm 5) (.bin .fdiv (.var 5) (.cst (.int 1000))))
    .nil)) .nil)
    .nil))
    .nil) (.cons (.set (.nm 7) (.bin .mod (.bif .int (.cons (.bin .add (.bin .add (.bin .mul (.var 5) (.cst (.int 48271))) (.bin .mul (.var 4) (.cst (.int 69621)))) (.cst (.int 11))) .nil)) (.cst (.int 2147483647))))
    (.cons (.for_ (.nm 6) (.rng1 (.cst (.int 12))) (.cons (.set (.nm 7) (.bin .mod (.bif .int (.cons (.bin .add (.bin .add (.bin .mul (.var 7) (.cst (.int 16807))) (.bin .mul (.cst (.int 7)) (.var 6))) (.cst (.int 1))) .nil)) (.cst (.int 2147483647))))
    (.cons (.expr (.met .append (.var 3) (.cons (.bin .mod (.bif .int (.cons (.bin .fdiv (.var 7) (.cst (.int 997))) .nil)) (.cst (.int 1000))) .nil)))
    .nil)))
    .nil)))
    .nil))))
def ds1 : PyI.S := (.ifs (.val (.cmp .gt (.bif .len (.cons (.var 3) .nil)) (.cst (.int 1500)))) (.cons .brk
    .nil) .nil)
def ds2 : PyI.S := (.set (.nm 5) (.call 10 (.cons (.var 0) (.cons (.var 4) .nil))))
def ds3 : PyI.S := (.ifs (.val (.cmp .lt (.var 5) (.cst (.int 0)))) (.cons (.set (.nm 5) (.bin .sub (.cst (.int 1)) (.bin .mul (.cst (.int 2)) (.var 5))))
    .nil) .nil)
def ds4 : PyI.S := (.ifs (.val (.cmp .ge (.var 5) (.bin .pow (.cst (.int 10)) (.cst (.int 18))))) (.cons (.for_ (.nm 6) (.rng1 (.cst (.int 60))) (.cons (.ifs (.val (.cmp .gt (.var 5) (.cst (.int 0)))) (.cons (.expr (.met .append (.var 3) (.cons (.bin .mod (.bif .int (.cons (.var 5) .nil)) (.cst (.int 1000))) .nil)))
    (.cons (.set (.nm 5) (.bin .fdiv (.var 5) (.cst (.int 1000))))
    .nil)) .nil)
    .nil))
    .nil) (.cons (.set (.nm 7) (.bin .mod (.bif .int (.cons (.bin .add (.bin .add (.bin .mul (.var 5) (.cst (.int 48271))) (.bin .mul (.var 4) (.cst (.int 69621)))) (.cst (.int 11))) .nil)) (.cst (.int 2147483647))))
    (.cons (.for_ (.nm 6) (.rng1 (.cst (.int 12))) (.cons (.set (.nm 7) (.bin .mod (.bif .int (.cons (.bin .add (.bin .add (.bin .mul (.var 7) (.cst (.int 16807))) (.bin .mul (.cst (.int 7)) (.var 6))) (.cst (.int 1))) .nil)) (.cst (.int 2147483647))))
    (.cons (.expr (.met .append (.var 3) (.cons (.bin .mod (.bif .int (.cons (.bin .fdiv (.var 7) (.cst (.int 997))) .nil)) (.cst (.int 1000))) .nil)))
    .nil)))
    .nil)))
def dbig : B := (.cons (.ifs (.val (.cmp .gt (.var 5) (.cst (.int 0)))) (.cons (.expr (.met .append (.var 3) (.cons (.bin .mod (.bif .int (.cons (.var 5) .nil)) (.cst (.int 1000))) .nil)))
    (.cons (.set (.nm 5) (.bin .fdiv (.var 5) (.cst (.int 1000))))
    .nil)) .nil)
    .nil)
def dsm : B := (.cons (.set (.nm 7) (.bin .mod (.bif .int (.cons (.bin .add (.bin .add (.bin .mul (.var 7) (.cst (.int 16807))) (.bin .mul (.cst (.int 7)) (.var 6))) (.cst (.int 1))) .nil)) (.cst (.int 2147483647))))
    (.cons (.expr (.met .append (.var 3) (.cons (.bin .mod (.bif .int (.cons (.bin .fdiv (.var 7) (.cst (.int 997))) .nil)) (.cst (.int 1000))) .nil)))
    .nil))
def vs1 : PyI.S := (.set (.nm 2) (.call 12 (.cons (.var 0) (.cons (.cst (.int 9)) .nil))))
def vs2 : PyI.S := (.ifs (.and (.val (.cmp .lt (.var 2) (.cst (.int 3)))) (.val (.cmp .gt (.var 1) (.cst (.int 0))))) (.cons (.ret (.bif .tuple (.cons (.comp [5] (.nm 5) (.rng1 (.call 12 (.cons (.var 0) (.cons (.cst (.int 4)) .nil)))) .yes (.call 15 (.cons (.var 0) (.cons (.bin .sub (.var 1) (.cst (.int 1))) .nil)))) .nil)))
    .nil) .nil)
def vs3 : PyI.S := (.ifs (.val (.cmp .eq (.var 2) (.cst (.int 3)))) (.cons (.ret (.idx (.lst (.cons (.cst .non) (.cons (.cst (.bl true)) (.cons (.cst (.bl false)) .nil)))) (.call 12 (.cons (.var 0) (.cons (.cst (.int 3)) .nil)))))
    .nil) .nil)
def vs4 : PyI.S := (.ifs (.val (.cmp .eq (.var 2) (.cst (.int 4)))) (.cons (.set (.nm 3) (.bin .sub (.bin .add (.bin .mul (.call 12 (.cons (.var 0) (.cons (.cst (.int 900)) .nil))) (.bin .pow (.cst (.int 10)) (.cst (.int 16)))) (.call 12 (.cons (.var 0) (.cons (.cst (.int 900)) .nil)))) (.cst (.int 450))))
    (.cons (.ret (.idx (.lst (.cons (.var 3) (.cons (.bin .sub (.cst (.int 0)) (.var 3)) (.cons (.bin .add (.bin .pow (.cst (.int 10)) (.cst (.int 19))) (.var 3)) (.cons (.cst (.int 0)) .nil))))) (.call 12 (.cons (.var 0) (.cons (.cst (.int 4)) .nil)))))
    .nil)) .nil)
def vs5 : PyI.S := (.ifs (.val (.cmp .eq (.var 2) (.cst (.int 5)))) (.cons (.ret (.bin .sub (.call 12 (.cons (.var 0) (.cons (.cst (.int 30)) .nil))) (.cst (.int 15))))
    .nil) .nil)
def vs6 : PyI.S := (.set (.nm 4) (.cst (.str " !\"#$&'()*+,-./0189:;<=>?@AZ[\\]^_`az{|}~\nnTFN")))
def vs7 : PyI.S := (.ret (.met .join (.cst (.str "")) (.cons (.comp [5] (.nm 5) (.rng1 (.call 12 (.cons (.var 0) (.cons (.cst (.int 9)) .nil)))) .yes (.idx (.var 4) (.bin .mod (.bif .int (.cons (.call 12 (.cons (.var 0) (.cons (.cst (.int 900)) .nil))) .nil)) (.bif .len (.cons (.var 4) .nil))))) .nil)))
def ls1 : PyI.S := (.new 1 (.lst (.cons (.call 11 (.cons (.var 0) (.cons (.cst (.int 0)) (.cons (.cst (.int 63)) .nil)))) (.cons (.cst (.int 0)) .nil))))
def ls2 : PyI.S := (.for_ (.nm 2) (.rng1 (.cst (.int 6))) (.cons (.set (.nm 3) (.call 15 (.cons (.var 1) (.cons (.cst (.int 4)) .nil))))
    (.cons (.for_ (.nm 4) (.rng1 (.idx (.lst (.cons (.cst (.int 0)) (.cons (.cst (.int 0)) (.cons (.cst (.int 0)) (.cons (.cst (.int 56)) .nil))))) (.call 12 (.cons (.var 1) (.cons (.cst (.int 4)) .nil))))) (.cons (.set (.nm 3) (.tup (.cons (.var 3) .nil)))
    .nil))
    (.cons (.set (.nm 5) (.call 14 (.cons (.var 3) .nil)))
    (.cons (.ifs (.or (.not (.val (.call 13 (.cons (.call 0 (.cons (.var 3) .nil)) (.cons (.var 5) .nil))))) (.not (.val (.call 13 (.cons (.call 2 (.cons (.var 5) .nil)) (.cons (.var 3) .nil)))))) (.cons (.ret (.cst (.bl false)))
    .nil) .nil)
    .nil)))))
def ls3 : PyI.S := (.ret (.cst (.bl true)))
def lbo : B := (.cons (.set (.nm 3) (.call 15 (.cons (.var 1) (.cons (.cst (.int 4)) .nil))))
    (.cons (.for_ (.nm 4) (.rng1 (.idx (.lst (.cons (.cst (.int 0)) (.cons (.cst (.int 0)) (.cons (.cst (.int 0)) (.cons (.cst (.int 56)) .nil))))) (.call 12 (.cons (.var 1) (.cons (.cst (.int 4)) .nil))))) (.cons (.set (.nm 3) (.tup (.cons (.var 3) .nil)))
    .nil))
    (.cons (.set (.nm 5) (.call 14 (.cons (.var 3) .nil)))
    (.cons (.ifs (.or (.not (.val (.call 13 (.cons (.call 0 (.cons (.var 3) .nil)) (.cons (.var 5) .nil))))) (.not (.val (.call 13 (.cons (.call 2 (.cons (.var 5) .nil)) (.cons (.var 3) .nil)))))) (.cons (.ret (.cst (.bl false)))
    .nil) .nil)
    .nil))))
def lt1 : PyI.S := (.set (.nm 3) (.call 15 (.cons (.var 1) (.cons (.cst (.int 4)) .nil))))
def lt2 : PyI.S := (.for_ (.nm 4) (.rng1 (.idx (.lst (.cons (.cst (.int 0)) (.cons (.cst (.int 0)) (.cons (.cst (.int 0)) (.cons (.cst (.int 56)) .nil))))) (.call 12 (.cons (.var 1) (.cons (.cst (.int 4)) .nil))))) (.cons (.set (.nm 3) (.tup (.cons (.var 3) .nil)))
    .nil))
def lt3 : PyI.S := (.set (.nm 5) (.call 14 (.cons (.var 3) .nil)))
def lt4 : PyI.S := (.ifs (.or (.not (.val (.call 13 (.cons (.call 0 (.cons (.var 3) .nil)) (.cons (.var 5) .nil))))) (.not (.val (.call 13 (.cons (.call 2 (.cons (.var 5) .nil)) (.cons (.var 3) .nil)))))) (.cons (.ret (.cst (.bl false)))
    .nil) .nil)
def lwr : B := (.cons (.set (.nm 3) (.tup (.cons (.var 3) .nil)))
    .nil)

theorem ifs_true {Γ : G} {t : T} {a b : B} {ρ : Rho} {μ μ' : Mu} {o : Out} (h : evalT Γ t ρ μ = .ok true μ') (h2 : runB Γ a ρ μ' = o) : runS Γ (.ifs t a b) ρ μ = o := by
  rw [runS, h, then_ok, if_pos rfl]
  exact h2
theorem ifs_false {Γ : G} {t : T} {a b : B} {ρ : Rho} {μ μ' : Mu} {o : Out} (h : evalT Γ t ρ μ = .ok false μ') (h2 : runB Γ b ρ μ' = o) : runS Γ (.ifs t a b) ρ μ = o := by
  rw [runS, h, then_ok, if_neg (by decide)]
  exact h2
theorem run_nil {Γ : G} {ρ : Rho} {μ : Mu} : runB Γ .nil ρ μ = .nx ρ μ := by rw [runB]
theorem run_br {Γ : G} {s : PyI.S} {b : B} {ρ ρ' : Rho} {μ μ' : Mu} (h : runS Γ s ρ μ = .br ρ' μ') : runB Γ (.cons s b) ρ μ = .br ρ' μ' := by
  rw [runB, h]
  rfl
theorem cell_ok {k i : Nat} {ns : List Int} {μ : Mu} : ∃ v, cl (k + 1) n_law_cell [.lst (ns.map D.int), .int i] μ = .ok (.int v) μ := by
  unfold cl
  rw [c_law_cell]
  by_cases h : (i : Int) < ((ns.map D.int).length : Int)
  · have hi : i < ns.length := by rw [List.length_map] at h; omega
    refine ⟨ns[i], ?_⟩
    have hv : atI (ns.map D.int) (i : Int) = some (.int ns[i]) := by
      have := at_mem (l := ns.map D.int) (i := i) (by simpa using hi)
      rw [Int.zero_add] at this
      rw [this]
      simp
    generalize ns.map D.int = l at *
    simp only [b_law_cell, f_law_cell, bind_ok, then_ok, next_nx, next_rt, next_br, next_ct, finO_rt, finO_nx, runB, runS, evalE, evalEs, evalT, evalO, evalIt, evalR, assignT, startR, List.map_cons, List.map_nil, List.length_cons, List.length_nil, List.replicate_zero, List.replicate_succ, Nat.zero_add, Nat.reduceAdd, Nat.reduceSub, List.cons_append, List.nil_append, List.append_nil, List.set_cons_zero, List.set_cons_succ, List.getElem?_cons_succ, List.getElem?_cons_zero, idxD, seqD, binD, setIxD, cmpD, truD, bifD, isiD, Int.reduceNeg, Bool.not_true, Bool.not_false, ↓reduceIte, Bool.false_eq_true, Bool.true_eq_false, if_true, if_false, List.zip_cons_cons, List.zip_nil_right, List.zip_nil_left, List.foldl_cons, List.foldl_nil, tyf, Bool.or_false, Bool.false_or, Bool.or_true, Bool.true_or, Bool.or_self, h, decide_true, hv]
    rw [fin_same rfl]
  · refine ⟨0, ?_⟩
    generalize ns.map D.int = l at *
    simp only [b_law_cell, f_law_cell, bind_ok, then_ok, next_nx, next_rt, next_br, next_ct, finO_rt, finO_nx, runB, runS, evalE, evalEs, evalT, evalO, evalIt, evalR, assignT, startR, List.map_cons, List.map_nil, List.length_cons, List.length_nil, List.replicate_zero, List.replicate_succ, Nat.zero_add, Nat.reduceAdd, Nat.reduceSub, List.cons_append, List.nil_append, List.append_nil, List.set_cons_zero, List.set_cons_succ, List.getElem?_cons_succ, List.getElem?_cons_zero, idxD, seqD, binD, setIxD, cmpD, truD, bifD, isiD, Int.reduceNeg, Bool.not_true, Bool.not_false, ↓reduceIte, Bool.false_eq_true, Bool.true_eq_false, if_true, if_false, List.zip_cons_cons, List.zip_nil_right, List.zip_nil_left, List.foldl_cons, List.foldl_nil, tyf, Bool.or_false, Bool.false_or, Bool.or_true, Bool.true_or, Bool.or_self, h, decide_false]
    rw [fin_same rfl]
theorem big_loop {k n m : Nat} {x0 x1 x2 x4 x6 x7 : Option D} {c : Int} {ds : List Int} {μ : Mu} (hn : n = μ.length) (hm : m ≤ 1000000) (hl : ds.length ≤ m) :
    ∃ ρ' μ', forLoop (fbody (gg k) (.nm 6) dbig) (chkOf none) (rngD 0 60) [x0, x1, x2, some (.ref n), x4, some (.int c), x6, x7] (μ ++ [.lst (ds.map D.int)]) = .nx ρ' μ' ∧
      ∃ (ds' : List Int) (c' : Int) (o6 : Option D), ds'.length ≤ m + 60 ∧ μ' = μ ++ [.lst (ds'.map D.int)] ∧ ρ' = [x0, x1, x2, some (.ref n), x4, some (.int c'), o6, x7] := by
  refine for_range (fun j ρ ν => ∃ (ds' : List Int) (c' : Int) (o6 : Option D), ds'.length ≤ m + j ∧ ν = μ ++ [.lst (ds'.map D.int)] ∧ ρ = [x0, x1, x2, some (.ref n), x4, some (.int c'), o6, x7]) ⟨ds, c, x6, hl, rfl, rfl⟩ ?_
  rintro i hi ρ ν ⟨ds', c', o6, h1, rfl, rfl⟩
  subst hn
  have g1 : (0 : Int) < 1000 := by decide
  have g2 : (0 : Int) < 1000 ∧ (1000 : Int) < 1073741824 := by decide
  have g3 : (ds'.map D.int).length < 16777216 := by rw [List.length_map]; omega
  generalize (0 : Int) + (i : Int) = j
  by_cases hc : 0 < c'
  · refine .inl ⟨[x0, x1, x2, some (.ref μ.length), x4, some (.int (c' / 1000)), some (.int j), x7], μ ++ [.lst ((ds' ++ [c' % 1000]).map D.int)], ?_, ds' ++ [c' % 1000], c' / 1000, some (.int j), by simp; omega, rfl, rfl⟩
    rw [List.map_append, List.map_cons, List.map_nil]
    generalize ds'.map D.int = dl at g3 ⊢
    simp only [fbody_nm, dbig, bind_ok, then_ok, next_nx, next_rt, next_br, next_ct, finO_rt, finO_nx, runB, runS, evalE, evalEs, evalT, evalO, evalIt, evalR, assignT, startR, List.map_cons, List.map_nil, List.length_cons, List.length_nil, List.replicate_zero, List.replicate_succ, Nat.zero_add, Nat.reduceAdd, Nat.reduceSub, List.cons_append, List.nil_append, List.append_nil, List.set_cons_zero, List.set_cons_succ, List.getElem?_cons_succ, List.getElem?_cons_zero, idxD, seqD, binD, setIxD, cmpD, truD, bifD, isiD, Int.reduceNeg, Bool.not_true, Bool.not_false, ↓reduceIte, Bool.false_eq_true, Bool.true_eq_false, if_true, if_false, List.zip_cons_cons, List.zip_nil_right, List.zip_nil_left, List.foldl_cons, List.foldl_nil, tyf, Bool.or_false, Bool.false_or, Bool.or_true, Bool.true_or, Bool.or_self, hc, decide_true, tyD, snoc_get, needs_pos trivial, metD, needs_pos g1, needs_pos g2, needs_pos g3, snoc_set]
  · refine .inl ⟨[x0, x1, x2, some (.ref μ.length), x4, some (.int c'), some (.int j), x7], μ ++ [.lst (ds'.map D.int)], ?_, ds', c', some (.int j), by omega, rfl, rfl⟩
    generalize ds'.map D.int = dl at g3 ⊢
    simp only [fbody_nm, dbig, bind_ok, then_ok, next_nx, next_rt, next_br, next_ct, finO_rt, finO_nx, runB, runS, evalE, evalEs, evalT, evalO, evalIt, evalR, assignT, startR, List.map_cons, List.map_nil, List.length_cons, List.length_nil, List.replicate_zero, List.replicate_succ, Nat.zero_add, Nat.reduceAdd, Nat.reduceSub, List.cons_append, List.nil_append, List.append_nil, List.set_cons_zero, List.set_cons_succ, List.getElem?_cons_succ, List.getElem?_cons_zero, idxD, seqD, binD, setIxD, cmpD, truD, bifD, isiD, Int.reduceNeg, Bool.not_true, Bool.not_false, ↓reduceIte, Bool.false_eq_true, Bool.true_eq_false, if_true, if_false, List.zip_cons_cons, List.zip_nil_right, List.zip_nil_left, List.foldl_cons, List.foldl_nil, tyf, Bool.or_false, Bool.false_or, Bool.or_true, Bool.true_or, Bool.or_self, hc, decide_false]
theorem small_loop {k n m : Nat} {x0 x1 x2 x4 x5 x6 : Option D} {c : Int} {ds : List Int} {μ : Mu} (hn : n = μ.length) (hm : m ≤ 1000000) (hl : ds.length ≤ m) :
    ∃ ρ' μ', forLoop (fbody (gg k) (.nm 6) dsm) (chkOf none) (rngD 0 12) [x0, x1, x2, some (.ref n), x4, x5, x6, some (.int c)] (μ ++ [.lst (ds.map D.int)]) = .nx ρ' μ' ∧
      ∃ (ds' : List Int) (c' : Int) (o6 : Option D), ds'.length ≤ m + 12 ∧ μ' = μ ++ [.lst (ds'.map D.int)] ∧ ρ' = [x0, x1, x2, some (.ref n), x4, x5, o6, some (.int c')] := by
  refine for_range (fun j ρ ν => ∃ (ds' : List Int) (c' : Int) (o6 : Option D), ds'.length ≤ m + j ∧ ν = μ ++ [.lst (ds'.map D.int)] ∧ ρ = [x0, x1, x2, some (.ref n), x4, x5, o6, some (.int c')]) ⟨ds, c, x6, hl, rfl, rfl⟩ ?_
  rintro i hi ρ ν ⟨ds', c', o6, h1, rfl, rfl⟩
  subst hn
  have g1 : (0 : Int) < 1000 := by decide
  have g0 : (0 : Int) < 2147483647 := by decide
  have g2 : (0 : Int) < 997 ∧ (997 : Int) < 1073741824 := by decide
  have g3 : (ds'.map D.int).length < 16777216 := by rw [List.length_map]; omega
  have g4 : lim64 c' ∨ lim64 16807 := .inr (by decide)
  generalize hj : (0 : Int) + (i : Int) = j
  have g5 : lim64 7 ∨ lim64 j := .inl (by decide)
  refine .inl ⟨[x0, x1, x2, some (.ref μ.length), x4, x5, some (.int j), some (.int ((c' * 16807 + 7 * j + 1) % 2147483647))], μ ++ [.lst ((ds' ++ [((c' * 16807 + 7 * j + 1) % 2147483647) / 997 % 1000]).map D.int)], ?_, ds' ++ [((c' * 16807 + 7 * j + 1) % 2147483647) / 997 % 1000], _, some (.int j), by simp; omega, rfl, rfl⟩
  rw [List.map_append, List.map_cons, List.map_nil]
  generalize ds'.map D.int = dl at g3 ⊢
  simp only [fbody_nm, dsm, bind_ok, then_ok, next_nx, next_rt, next_br, next_ct, finO_rt, finO_nx, runB, runS, evalE, evalEs, evalT, evalO, evalIt, evalR, assignT, startR, List.map_cons, List.map_nil, List.length_cons, List.length_nil, List.replicate_zero, List.replicate_succ, Nat.zero_add, Nat.reduceAdd, Nat.reduceSub, List.cons_append, List.nil_append, List.append_nil, List.set_cons_zero, List.set_cons_succ, List.getElem?_cons_succ, List.getElem?_cons_zero, idxD, seqD, binD, setIxD, cmpD, truD, bifD, isiD, Int.reduceNeg, Bool.not_true, Bool.not_false, ↓reduceIte, Bool.false_eq_true, Bool.true_eq_false, if_true, if_false, List.zip_cons_cons, List.zip_nil_right, List.zip_nil_left, List.foldl_cons, List.foldl_nil, tyf, Bool.or_false, Bool.false_or, Bool.or_true, Bool.true_or, Bool.or_self, tyD, snoc_get, needs_pos trivial, metD, needs_pos g0, needs_pos g1, needs_pos g2, needs_pos g3, needs_pos g4, needs_pos g5, snoc_set]
theorem seed_step {k : Nat} {x0 x1 x2 x3 o6 o7 : Option D} {c z : Int} {ν : Mu} : runS (gg k) (.set (.nm 7) (.bin .mod (.bif .int (.cons (.bin .add (.bin .add (.bin .mul (.var 5) (.cst (.int 48271))) (.bin .mul (.var 4) (.cst (.int 69621)))) (.cst (.int 11))) .nil)) (.cst (.int 2147483647)))) [x0, x1, x2, x3, some (.int z), some (.int c), o6, o7] ν = .nx [x0, x1, x2, x3, some (.int z), some (.int c), o6, some (.int ((c * 48271 + z * 69621 + 11) % 2147483647))] ν := by
  have g4 : lim64 c ∨ lim64 48271 := .inr (by decide)
  have g5 : lim64 z ∨ lim64 69621 := .inr (by decide)
  have g6 : (0 : Int) < 2147483647 := by decide
  simp only [bind_ok, then_ok, next_nx, next_rt, next_br, next_ct, finO_rt, finO_nx, runB, runS, evalE, evalEs, evalT, evalO, evalIt, evalR, assignT, startR, List.map_cons, List.map_nil, List.length_cons, List.length_nil, List.replicate_zero, List.replicate_succ, Nat.zero_add, Nat.reduceAdd, Nat.reduceSub, List.cons_append, List.nil_append, List.append_nil, List.set_cons_zero, List.set_cons_succ, List.getElem?_cons_succ, List.getElem?_cons_zero, idxD, seqD, binD, setIxD, cmpD, truD, bifD, isiD, Int.reduceNeg, Bool.not_true, Bool.not_false, ↓reduceIte, Bool.false_eq_true, Bool.true_eq_false, if_true, if_false, List.zip_cons_cons, List.zip_nil_right, List.zip_nil_left, List.foldl_cons, List.foldl_nil, tyf, Bool.or_false, Bool.false_or, Bool.or_true, Bool.true_or, Bool.or_self, needs_pos g4, needs_pos g5, needs_pos g6]
theorem digits_ok {k : Nat} {ns : List Int} {μ : Mu} (hμ : PureM μ) : ∃ ds : List Int, cl (k + 2) n_law_digits [.lst (ns.map D.int), .int 0, .int 63] μ = .ok (.lst (ds.map D.int)) μ := by
  have g0 : 0 ≤ 16777216 := Nat.zero_le _
  have loop := for_range (f := fbody (gg (k + 1)) (.nm 4) dbo) (lo := 0) (n := 63) (ρ := [some (.lst (ns.map D.int)), some (.int 0), some (.int 63), some (.ref μ.length), none, none, none, none]) (μ := μ ++ [.lst []])
    (fun i ρ ν => ∃ (ds : List Int) (o4 o5 o6 o7 : Option D), ds.length ≤ 60 * i ∧ ν = μ ++ [.lst (ds.map D.int)] ∧ ρ = [some (.lst (ns.map D.int)), some (.int 0), some (.int 63), some (.ref μ.length), o4, o5, o6, o7])
    ⟨[], none, none, none, none, by simp, rfl, rfl⟩ (by
      rintro i hi ρ ν ⟨ds, o4, o5, o6, o7, h1, rfl, rfl⟩
      rw [Int.zero_add, fbody_nm]
      obtain ⟨v, hv⟩ := cell_ok (k := k) (i := i) (ns := ns) (μ := μ ++ [.lst (ds.map D.int)])
      unfold cl at hv
      generalize hX : D.lst (ns.map D.int) = X at hv ⊢
      have gl : ((ds.map D.int).length : Int) = (ds.length : Int) := by rw [List.length_map]
      show (∃ ρ' μ', runB (gg (k + 1)) (.cons ds1 (.cons ds2 (.cons ds3 (.cons ds4 .nil)))) [some X, some (.int 0), some (.int 63), some (.ref μ.length), some (.int i), o5, o6, o7] _ = .nx ρ' μ' ∧ _) ∨ (∃ ρ' μ', runB (gg (k + 1)) (.cons ds1 (.cons ds2 (.cons ds3 (.cons ds4 .nil)))) [some X, some (.int 0), some (.int 63), some (.ref μ.length), some (.int i), o5, o6, o7] _ = .br ρ' μ' ∧ _)
      have big := fun c => big_loop (k := k + 1) (n := μ.length) (m := 60 * i) (x0 := some X) (x1 := some (.int 0)) (x2 := some (.int 63)) (x4 := some (.int i)) (x6 := o6) (x7 := o7) (c := c) (ds := ds) (μ := μ) rfl (by omega) h1
      have small := fun c x5 => small_loop (k := k + 1) (n := μ.length) (m := 60 * i) (x0 := some X) (x1 := some (.int 0)) (x2 := some (.int 63)) (x4 := some (.int i)) (x5 := x5) (x6 := o6) (c := c) (ds := ds) (μ := μ) rfl (by omega) h1
      by_cases hb : (1500 : Int) < ((ds.map D.int).length : Int)
      · refine .inr ⟨[some X, some (.int 0), some (.int 63), some (.ref μ.length), some (.int i), o5, o6, o7], μ ++ [.lst (ds.map D.int)], run_br ?_, ds, _, _, _, _, by omega, rfl, by rw [← hX]⟩
        generalize ds.map D.int = dl at hb ⊢
        simp only [ds1, bind_ok, then_ok, next_nx, next_rt, next_br, next_ct, finO_rt, finO_nx, runB, runS, evalE, evalEs, evalT, evalO, evalIt, evalR, assignT, startR, List.map_cons, List.map_nil, List.length_cons, List.length_nil, List.replicate_zero, List.replicate_succ, Nat.zero_add, Nat.reduceAdd, Nat.reduceSub, List.cons_append, List.nil_append, List.append_nil, List.set_cons_zero, List.set_cons_succ, List.getElem?_cons_succ, List.getElem?_cons_zero, idxD, seqD, binD, setIxD, cmpD, truD, bifD, isiD, Int.reduceNeg, Bool.not_true, Bool.not_false, ↓reduceIte, Bool.false_eq_true, Bool.true_eq_false, if_true, if_false, List.zip_cons_cons, List.zip_nil_right, List.zip_nil_left, List.foldl_cons, List.foldl_nil, tyf, Bool.or_false, Bool.false_or, Bool.or_true, Bool.true_or, Bool.or_self, snoc_get, hb, decide_true]
      · generalize hd : ds.map D.int = dl at hb hv big small ⊢
        obtain ⟨c, h3⟩ : ∃ c, runS (gg (k + 1)) ds3 [some X, some (.int 0), some (.int 63), some (.ref μ.length), some (.int i), some (.int v), o6, o7] (μ ++ [.lst dl]) = .nx [some X, some (.int 0), some (.int 63), some (.ref μ.length), some (.int i), some (.int c), o6, o7] (μ ++ [.lst dl]) := by
          have g4 : lim64 2 ∨ lim64 v := .inl (by decide)
          by_cases hc : v < 0
          · exact ⟨1 - 2 * v, by simp only [ds3, bind_ok, then_ok, next_nx, next_rt, next_br, next_ct, finO_rt, finO_nx, runB, runS, evalE, evalEs, evalT, evalO, evalIt, evalR, assignT, startR, List.map_cons, List.map_nil, List.length_cons, List.length_nil, List.replicate_zero, List.replicate_succ, Nat.zero_add, Nat.reduceAdd, Nat.reduceSub, List.cons_append, List.nil_append, List.append_nil, List.set_cons_zero, List.set_cons_succ, List.getElem?_cons_succ, List.getElem?_cons_zero, idxD, seqD, binD, setIxD, cmpD, truD, bifD, isiD, Int.reduceNeg, Bool.not_true, Bool.not_false, ↓reduceIte, Bool.false_eq_true, Bool.true_eq_false, if_true, if_false, List.zip_cons_cons, List.zip_nil_right, List.zip_nil_left, List.foldl_cons, List.foldl_nil, tyf, Bool.or_false, Bool.false_or, Bool.or_true, Bool.true_or, Bool.or_self, hc, decide_true, needs_pos g4]⟩
          · exact ⟨v, by simp only [ds3, bind_ok, then_ok, next_nx, next_rt, next_br, next_ct, finO_rt, finO_nx, runB, runS, evalE, evalEs, evalT, evalO, evalIt, evalR, assignT, startR, List.map_cons, List.map_nil, List.length_cons, List.length_nil, List.replicate_zero, List.replicate_succ, Nat.zero_add, Nat.reduceAdd, Nat.reduceSub, List.cons_append, List.nil_append, List.append_nil, List.set_cons_zero, List.set_cons_succ, List.getElem?_cons_succ, List.getElem?_cons_zero, idxD, seqD, binD, setIxD, cmpD, truD, bifD, isiD, Int.reduceNeg, Bool.not_true, Bool.not_false, ↓reduceIte, Bool.false_eq_true, Bool.true_eq_false, if_true, if_false, List.zip_cons_cons, List.zip_nil_right, List.zip_nil_left, List.foldl_cons, List.foldl_nil, tyf, Bool.or_false, Bool.false_or, Bool.or_true, Bool.true_or, Bool.or_self, hc, decide_false]⟩
        have gp : (0 : Int) ≤ 18 ∧ (18 : Int) ≤ 1000000 ∧ (10 : Int).natAbs < 2 ^ 64 := by decide
        have h4 : ∃ ρ' μ', runS (gg (k + 1)) ds4 [some X, some (.int 0), some (.int 63), some (.ref μ.length), some (.int i), some (.int c), o6, o7] (μ ++ [.lst dl]) = .nx ρ' μ' ∧ ∃ (ds : List Int) (o4 o5 o6 o7 : Option D), ds.length ≤ 60 * (i + 1) ∧ μ' = μ ++ [.lst (ds.map D.int)] ∧ ρ' = [some X, some (.int 0), some (.int 63), some (.ref μ.length), o4, o5, o6, o7] := by
          by_cases hg : (10 : Int) ^ (18 : Int).toNat ≤ c
          · obtain ⟨ρ', μ', e, ds', c', o6', q1, q2, q3⟩ := big c
            refine ⟨ρ', μ', ifs_true (μ' := μ ++ [.lst dl]) ?_ (run_nx (for_run' (it_rng1 (i := 60) (n := 60) (by simp only [bind_ok, then_ok, next_nx, next_rt, next_br, next_ct, finO_rt, finO_nx, runB, runS, evalE, evalEs, evalT, evalO, evalIt, evalR, assignT, startR, List.map_cons, List.map_nil, List.length_cons, List.length_nil, List.replicate_zero, List.replicate_succ, Nat.zero_add, Nat.reduceAdd, Nat.reduceSub, List.cons_append, List.nil_append, List.append_nil, List.set_cons_zero, List.set_cons_succ, List.getElem?_cons_succ, List.getElem?_cons_zero, idxD, seqD, binD, setIxD, cmpD, truD, bifD, isiD, Int.reduceNeg, Bool.not_true, Bool.not_false, ↓reduceIte, Bool.false_eq_true, Bool.true_eq_false, if_true, if_false, List.zip_cons_cons, List.zip_nil_right, List.zip_nil_left, List.foldl_cons, List.foldl_nil, tyf, Bool.or_false, Bool.false_or, Bool.or_true, Bool.true_or, Bool.or_self]) rfl (by omega)) e) run_nil), ds', _, _, _, _, by omega, q2, q3⟩
            simp only [bind_ok, then_ok, next_nx, next_rt, next_br, next_ct, finO_rt, finO_nx, runB, runS, evalE, evalEs, evalT, evalO, evalIt, evalR, assignT, startR, List.map_cons, List.map_nil, List.length_cons, List.length_nil, List.replicate_zero, List.replicate_succ, Nat.zero_add, Nat.reduceAdd, Nat.reduceSub, List.cons_append, List.nil_append, List.append_nil, List.set_cons_zero, List.set_cons_succ, List.getElem?_cons_succ, List.getElem?_cons_zero, idxD, seqD, binD, setIxD, cmpD, truD, bifD, isiD, Int.reduceNeg, Bool.not_true, Bool.not_false, ↓reduceIte, Bool.false_eq_true, Bool.true_eq_false, if_true, if_false, List.zip_cons_cons, List.zip_nil_right, List.zip_nil_left, List.foldl_cons, List.foldl_nil, tyf, Bool.or_false, Bool.false_or, Bool.or_true, Bool.true_or, Bool.or_self, needs_pos gp, hg, decide_true]
          · have g4 : lim64 c ∨ lim64 48271 := .inr (by decide)
            have g5 : lim64 (i : Int) ∨ lim64 69621 := .inr (by decide)
            have g6 : (0 : Int) < 2147483647 := by decide
            obtain ⟨ρ', μ', e, ds', c', o6', q1, q2, q3⟩ := small ((c * 48271 + i * 69621 + 11) % 2147483647) (some (.int c))
            refine ⟨ρ', μ', ifs_false (μ' := μ ++ [.lst dl]) ?_ (run_nx (ρ' := [some X, some (.int 0), some (.int 63), some (.ref μ.length), some (.int i), some (.int c), o6, some (.int ((c * 48271 + i * 69621 + 11) % 2147483647))]) (μ' := μ ++ [.lst dl]) ?_ (run_nx (for_run' (it_rng1 (i := 12) (n := 12) (by simp only [bind_ok, then_ok, next_nx, next_rt, next_br, next_ct, finO_rt, finO_nx, runB, runS, evalE, evalEs, evalT, evalO, evalIt, evalR, assignT, startR, List.map_cons, List.map_nil, List.length_cons, List.length_nil, List.replicate_zero, List.replicate_succ, Nat.zero_add, Nat.reduceAdd, Nat.reduceSub, List.cons_append, List.nil_append, List.append_nil, List.set_cons_zero, List.set_cons_succ, List.getElem?_cons_succ, List.getElem?_cons_zero, idxD, seqD, binD, setIxD, cmpD, truD, bifD, isiD, Int.reduceNeg, Bool.not_true, Bool.not_false, ↓reduceIte, Bool.false_eq_true, Bool.true_eq_false, if_true, if_false, List.zip_cons_cons, List.zip_nil_right, List.zip_nil_left, List.foldl_cons, List.foldl_nil, tyf, Bool.or_false, Bool.false_or, Bool.or_true, Bool.true_or, Bool.or_self]) rfl (by omega)) e) run_nil)), ds', _, _, _, _, by omega, q2, q3⟩
            · simp only [bind_ok, then_ok, next_nx, next_rt, next_br, next_ct, finO_rt, finO_nx, runB, runS, evalE, evalEs, evalT, evalO, evalIt, evalR, assignT, startR, List.map_cons, List.map_nil, List.length_cons, List.length_nil, List.replicate_zero, List.replicate_succ, Nat.zero_add, Nat.reduceAdd, Nat.reduceSub, List.cons_append, List.nil_append, List.append_nil, List.set_cons_zero, List.set_cons_succ, List.getElem?_cons_succ, List.getElem?_cons_zero, idxD, seqD, binD, setIxD, cmpD, truD, bifD, isiD, Int.reduceNeg, Bool.not_true, Bool.not_false, ↓reduceIte, Bool.false_eq_true, Bool.true_eq_false, if_true, if_false, List.zip_cons_cons, List.zip_nil_right, List.zip_nil_left, List.foldl_cons, List.foldl_nil, tyf, Bool.or_false, Bool.false_or, Bool.or_true, Bool.true_or, Bool.or_self, needs_pos gp, hg, decide_false]
            · exact seed_step
        obtain ⟨ρ', μ', e4, q⟩ := h4
        refine .inl ⟨ρ', μ', ?_, q⟩
        refine run_nx (ρ' := [some X, some (.int 0), some (.int 63), some (.ref μ.length), some (.int i), o5, o6, o7]) (μ' := μ ++ [.lst dl]) ?_ ?_
        · simp only [ds1, bind_ok, then_ok, next_nx, next_rt, next_br, next_ct, finO_rt, finO_nx, runB, runS, evalE, evalEs, evalT, evalO, evalIt, evalR, assignT, startR, List.map_cons, List.map_nil, List.length_cons, List.length_nil, List.replicate_zero, List.replicate_succ, Nat.zero_add, Nat.reduceAdd, Nat.reduceSub, List.cons_append, List.nil_append, List.append_nil, List.set_cons_zero, List.set_cons_succ, List.getElem?_cons_succ, List.getElem?_cons_zero, idxD, seqD, binD, setIxD, cmpD, truD, bifD, isiD, Int.reduceNeg, Bool.not_true, Bool.not_false, ↓reduceIte, Bool.false_eq_true, Bool.true_eq_false, if_true, if_false, List.zip_cons_cons, List.zip_nil_right, List.zip_nil_left, List.foldl_cons, List.foldl_nil, tyf, Bool.or_false, Bool.false_or, Bool.or_true, Bool.true_or, Bool.or_self, snoc_get, hb, decide_false]
        refine run_nx (ρ' := [some X, some (.int 0), some (.int 63), some (.ref μ.length), some (.int i), some (.int v), o6, o7]) (μ' := μ ++ [.lst dl]) ?_ ?_
        · simp only [ds2, bind_ok, then_ok, next_nx, next_rt, next_br, next_ct, finO_rt, finO_nx, runB, runS, evalE, evalEs, evalT, evalO, evalIt, evalR, assignT, startR, List.map_cons, List.map_nil, List.length_cons, List.length_nil, List.replicate_zero, List.replicate_succ, Nat.zero_add, Nat.reduceAdd, Nat.reduceSub, List.cons_append, List.nil_append, List.append_nil, List.set_cons_zero, List.set_cons_succ, List.getElem?_cons_succ, List.getElem?_cons_zero, idxD, seqD, binD, setIxD, cmpD, truD, bifD, isiD, Int.reduceNeg, Bool.not_true, Bool.not_false, ↓reduceIte, Bool.false_eq_true, Bool.true_eq_false, if_true, if_false, List.zip_cons_cons, List.zip_nil_right, List.zip_nil_left, List.foldl_cons, List.foldl_nil, tyf, Bool.or_false, Bool.false_or, Bool.or_true, Bool.true_or, Bool.or_self, hv]
        exact run_nx h3 (run_nx e4 run_nil))
  obtain ⟨ρ', μ', e, ds, o4, o5, o6, o7, h1, rfl, rfl⟩ := loop
  refine ⟨ds, ?_⟩
  have full : runB (gg (k + 1)) b_law_digits (startR f_law_digits.N.length [.lst (ns.map D.int), .int 0, .int 63]) μ = .rt (.ref μ.length) (μ ++ [.lst (ds.map D.int)]) := by
    unfold b_law_digits
    refine run_nx (ρ' := [some (.lst (ns.map D.int)), some (.int 0), some (.int 63), some (.ref μ.length), none, none, none, none]) (μ' := μ ++ [.lst []]) ?_ ?_
    · simp only [f_law_digits, bind_ok, then_ok, next_nx, next_rt, next_br, next_ct, finO_rt, finO_nx, runB, runS, evalE, evalEs, evalT, evalO, evalIt, evalR, assignT, startR, List.map_cons, List.map_nil, List.length_cons, List.length_nil, List.replicate_zero, List.replicate_succ, Nat.zero_add, Nat.reduceAdd, Nat.reduceSub, List.cons_append, List.nil_append, List.append_nil, List.set_cons_zero, List.set_cons_succ, List.getElem?_cons_succ, List.getElem?_cons_zero, idxD, seqD, binD, setIxD, cmpD, truD, bifD, isiD, Int.reduceNeg, Bool.not_true, Bool.not_false, ↓reduceIte, Bool.false_eq_true, Bool.true_eq_false, if_true, if_false, List.zip_cons_cons, List.zip_nil_right, List.zip_nil_left, List.foldl_cons, List.foldl_nil, tyf, Bool.or_false, Bool.false_or, Bool.or_true, Bool.true_or, Bool.or_self, needs_pos g0]
    refine run_nx (for_run' (it_rng2 (μ1 := μ ++ [.lst []]) (i := 0) (j := 63) (n := 0) (m := 63) (by simp only [bind_ok, then_ok, next_nx, next_rt, next_br, next_ct, finO_rt, finO_nx, runB, runS, evalE, evalEs, evalT, evalO, evalIt, evalR, assignT, startR, List.map_cons, List.map_nil, List.length_cons, List.length_nil, List.replicate_zero, List.replicate_succ, Nat.zero_add, Nat.reduceAdd, Nat.reduceSub, List.cons_append, List.nil_append, List.append_nil, List.set_cons_zero, List.set_cons_succ, List.getElem?_cons_succ, List.getElem?_cons_zero, idxD, seqD, binD, setIxD, cmpD, truD, bifD, isiD, Int.reduceNeg, Bool.not_true, Bool.not_false, ↓reduceIte, Bool.false_eq_true, Bool.true_eq_false, if_true, if_false, List.zip_cons_cons, List.zip_nil_right, List.zip_nil_left, List.foldl_cons, List.foldl_nil, tyf, Bool.or_false, Bool.false_or, Bool.or_true, Bool.true_or, Bool.or_self]) (by simp only [bind_ok, then_ok, next_nx, next_rt, next_br, next_ct, finO_rt, finO_nx, runB, runS, evalE, evalEs, evalT, evalO, evalIt, evalR, assignT, startR, List.map_cons, List.map_nil, List.length_cons, List.length_nil, List.replicate_zero, List.replicate_succ, Nat.zero_add, Nat.reduceAdd, Nat.reduceSub, List.cons_append, List.nil_append, List.append_nil, List.set_cons_zero, List.set_cons_succ, List.getElem?_cons_succ, List.getElem?_cons_zero, idxD, seqD, binD, setIxD, cmpD, truD, bifD, isiD, Int.reduceNeg, Bool.not_true, Bool.not_false, ↓reduceIte, Bool.false_eq_true, Bool.true_eq_false, if_true, if_false, List.zip_cons_cons, List.zip_nil_right, List.zip_nil_left, List.foldl_cons, List.foldl_nil, tyf, Bool.or_false, Bool.false_or, Bool.or_true, Bool.true_or, Bool.or_self]) rfl rfl (by omega)) e) ?_
    exact run_rt (by simp only [bind_ok, then_ok, next_nx, next_rt, next_br, next_ct, finO_rt, finO_nx, runB, runS, evalE, evalEs, evalT, evalO, evalIt, evalR, assignT, startR, List.map_cons, List.map_nil, List.length_cons, List.length_nil, List.replicate_zero, List.replicate_succ, Nat.zero_add, Nat.reduceAdd, Nat.reduceSub, List.cons_append, List.nil_append, List.append_nil, List.set_cons_zero, List.set_cons_succ, List.getElem?_cons_succ, List.getElem?_cons_zero, idxD, seqD, binD, setIxD, cmpD, truD, bifD, isiD, Int.reduceNeg, Bool.not_true, Bool.not_false, ↓reduceIte, Bool.false_eq_true, Bool.true_eq_false, if_true, if_false, List.zip_cons_cons, List.zip_nil_right, List.zip_nil_left, List.foldl_cons, List.foldl_nil, tyf, Bool.or_false, Bool.false_or, Bool.or_true, Bool.true_or, Bool.or_self])
  unfold cl
  rw [c_law_digits, full, finO_rt, fin_ret hμ (pureDs_map (fun _ => rfl) ds)]
end PyI.K30
namespace PyI.K30
open PySem L2
def Bx (μ : Mu) : Prop := ∃ (ds : List Int) (at_ : Int), 0 ≤ at_ ∧ μ = [.lst [.lst (ds.map D.int), .int at_]]
theorem drawn {k : Nat} {m : Int} (hm : 0 < m) {μ : Mu} (h : Bx μ) : ∃ r μ', 0 ≤ r ∧ r < m ∧ callD prg.tab prg.con prg.dic prg.wf (k + 1) n_law_draw [.ref 0, .int m] μ = .ok (.int r) μ' ∧ Bx μ' := by
  obtain ⟨ds, a, h0, rfl⟩ := h
  obtain ⟨r, h1, h2, h3⟩ := draw (k := k) (n := 0) (μ := [.lst [.lst (ds.map D.int), .int a]]) (ds := ds) (at_ := a) (m := m) rfl h0 hm
  exact ⟨r, _, h1, h2, h3, ds, a + 1, by omega, rfl⟩
def BB : Nat → Nat
  | 0 => 30
  | n + 1 => 4 * BB n
def GV (n : Nat) (d : D) : Prop := okV d = true ∧ dep d ≤ n ∧ (plainL d).length ≤ BB n
theorem BB_ge : ∀ n, 30 ≤ BB n
  | 0 => Nat.le_refl _
  | n + 1 => by
    have := BB_ge n
    rw [BB]
    omega
theorem plains_le {b : Nat} : ∀ {l : List D}, (∀ d ∈ l, (plainL d).length ≤ b) → (plainLs l).length ≤ l.length * (b + 1)
  | [], _ => Nat.zero_le _
  | [d], h => by
    have := h d (by simp)
    simp only [plainLs, List.length_cons, List.length_nil]
    omega
  | d :: e :: r, h => by
    have h1 := h d (by simp)
    have h2 := plains_le (l := e :: r) fun x hx => h x (List.mem_cons_of_mem _ hx)
    rw [List.length_cons, Nat.succ_mul]
    simp only [plainLs, List.length_append, List.length_cons] at *
    omega
theorem deps_le {n : Nat} : ∀ {l : List D}, (∀ d ∈ l, dep d ≤ n) → deps l ≤ n
  | [], _ => Nat.zero_le _
  | d :: l, h => by
    have h1 := h d (by simp)
    have h2 := deps_le (l := l) fun x hx => h x (List.mem_cons_of_mem _ hx)
    simp only [deps]
    omega
theorem GV.tup {n : Nat} {l : List D} (h : ∀ d ∈ l, GV n d) (hl : l.length ≤ 3) : GV (n + 1) (.tup l) := by
  refine ⟨okVs_of fun d hd => (h d hd).1, ?_, ?_⟩
  · have := deps_le fun d hd => (h d hd).2.1
    simp only [dep]
    omega
  · have h1 := plains_le fun d hd => (h d hd).2.2
    have h2 := BB_ge n
    have h3 : l.length * (BB n + 1) ≤ 3 * (BB n + 1) := Nat.mul_le_mul_right _ hl
    simp only [plainL, List.length_cons, List.length_append, List.length_nil, BB]
    omega
theorem int_len {i : Int} (h : i.natAbs < 10 ^ 20) : (intL i).length ≤ 21 := by
  cases i with
  | ofNat n =>
    have : (TL.numL n).length ≤ 20 := TL.numL_len (by decide) h
    show (TL.numL n).length ≤ 21
    omega
  | negSucc n =>
    have : (TL.numL (n + 1)).length ≤ 20 := TL.numL_len (by decide) h
    show (45 :: TL.numL (n + 1)).length ≤ 21
    rw [List.length_cons]
    omega
theorem GV.int {n : Nat} {i : Int} (h : i.natAbs < 10 ^ 20) : GV n (.int i) := by
  refine ⟨by simpa only [okV, decide_eq_true_eq] using h, Nat.zero_le _, ?_⟩
  have h1 := int_len h
  have h2 := BB_ge n
  simp only [plainL]
  omega
theorem GV.str {n : Nat} {l : List Nat} (h : l.all sgn = true) (hl : l.length ≤ 8) : GV n (.str (tx l)) := by
  refine ⟨h, Nat.zero_le _, ?_⟩
  have h1 := esc_le l
  have h2 := BB_ge n
  simp only [plainL, List.length_cons, List.length_append, List.length_nil, tx_l]
  omega
theorem GV.word {n : Nat} {d : D} (h : okV d = true) (h2 : dep d = 0) (h3 : (plainL d).length ≤ 1) : GV n d := ⟨h, by omega, by have := BB_ge n; omega⟩
def SG : List Nat := [32, 33, 34, 35, 36, 38, 39, 40, 41, 42, 43, 44, 45, 46, 47, 48, 49, 56, 57, 58, 59, 60, 61, 62, 63, 64, 65, 90, 91, 92, 93, 94, 95, 96, 97, 122, 123, 124, 125, 126, 10, 110, 84, 70, 78]
theorem joinL_ones : ∀ cs : List Nat, TL.joinL [] (cs.map fun c => [c]) = cs
  | [] => rfl
  | [_] => rfl
  | c :: d :: r => by
    have := joinL_ones (d :: r)
    simp only [List.map_cons, TL.joinL, List.nil_append] at *
    rw [this]
    rfl
theorem signs_of : ∀ {l : List D}, (∀ d ∈ l, ∃ c, sgn c = true ∧ d = .str (tx [c])) → ∃ cs : List Nat, cs.all sgn = true ∧ l = cs.map fun c => D.str (tx [c])
  | [], _ => ⟨[], rfl, rfl⟩
  | d :: l, h => by
    obtain ⟨c, h1, rfl⟩ := h d (by simp)
    obtain ⟨cs, h2, rfl⟩ := signs_of fun x hx => h x (List.mem_cons_of_mem _ hx)
    exact ⟨c :: cs, by simp [h1, h2], rfl⟩
theorem ones_sum : ∀ cs : List Nat, ((cs.map fun c => tx [c]).map (·.length)).sum = cs.length
  | [] => rfl
  | c :: r => by
    have := ones_sum r
    rw [List.map_cons, List.map_cons, List.sum_cons, this, tx_len, List.length_cons, List.length_cons]
    simp only [List.length_nil]
    omega
theorem in_rng {d : D} {lo : Int} {n : Nat} (h : d ∈ rngD lo n) : ∃ i : Int, d = .int i := by
  obtain ⟨i, _, rfl⟩ := List.mem_map.mp h
  exact ⟨_, rfl⟩
theorem vs3_ok {k n : Nat} {z : Int} {μ : Mu} (h : Bx μ) : ∃ v μ', runS (gg (k + 1)) vs3 [some (.ref 0), some (.int z), some (.int 3), none, none, none] μ = .rt v μ' ∧ Bx μ' ∧ GV n v := by
  obtain ⟨r, μ', h0, h1, q, hb⟩ := drawn (k := k) (m := 3) (by decide) h
  have g3 : 3 ≤ 16777216 := by decide
  have qi : eqOk 64 (.int 3) = true ∧ eqOk 64 (.int 3) = true := ⟨rfl, rfl⟩
  obtain ⟨v, hv, hg⟩ : ∃ v, atI ([.non, .bl true, .bl false] : List D) r = some v ∧ GV n v := by
    rcases (show r = 0 ∨ r = 1 ∨ r = 2 by omega) with rfl | rfl | rfl
    · exact ⟨_, rfl, GV.word rfl rfl (by decide)⟩
    · exact ⟨_, rfl, GV.word rfl rfl (by decide)⟩
    · exact ⟨_, rfl, GV.word rfl rfl (by decide)⟩
  refine ⟨v, μ', ifs_true (μ' := μ) (by simp only [bind_ok, then_ok, next_nx, next_rt, next_br, next_ct, finO_rt, finO_nx, runB, runS, evalE, evalEs, evalT, evalO, evalIt, evalR, assignT, startR, List.map_cons, List.map_nil, List.length_cons, List.length_nil, List.replicate_zero, List.replicate_succ, Nat.zero_add, Nat.reduceAdd, Nat.reduceSub, List.cons_append, List.nil_append, List.append_nil, List.set_cons_zero, List.set_cons_succ, List.getElem?_cons_succ, List.getElem?_cons_zero, idxD, seqD, binD, setIxD, cmpD, truD, bifD, isiD, Int.reduceNeg, Bool.not_true, Bool.not_false, ↓reduceIte, Bool.false_eq_true, Bool.true_eq_false, if_true, if_false, List.zip_cons_cons, List.zip_nil_right, List.zip_nil_left, List.foldl_cons, List.foldl_nil, tyf, Bool.or_false, Bool.false_or, Bool.or_true, Bool.true_or, Bool.or_self, deref, needs_pos qi, eqD, beq_self_eq_true]) (run_rt ?_), hb, hg⟩
  simp only [bind_ok, then_ok, next_nx, next_rt, next_br, next_ct, finO_rt, finO_nx, runB, runS, evalE, evalEs, evalT, evalO, evalIt, evalR, assignT, startR, List.map_cons, List.map_nil, List.length_cons, List.length_nil, List.replicate_zero, List.replicate_succ, Nat.zero_add, Nat.reduceAdd, Nat.reduceSub, List.cons_append, List.nil_append, List.append_nil, List.set_cons_zero, List.set_cons_succ, List.getElem?_cons_succ, List.getElem?_cons_zero, idxD, seqD, binD, setIxD, cmpD, truD, bifD, isiD, Int.reduceNeg, Bool.not_true, Bool.not_false, ↓reduceIte, Bool.false_eq_true, Bool.true_eq_false, if_true, if_false, List.zip_cons_cons, List.zip_nil_right, List.zip_nil_left, List.foldl_cons, List.foldl_nil, tyf, Bool.or_false, Bool.false_or, Bool.or_true, Bool.true_or, Bool.or_self, needs_pos g3, q, hv]
theorem vs4_ok {k n : Nat} {z : Int} {μ : Mu} (h : Bx μ) : ∃ v μ', runS (gg (k + 1)) vs4 [some (.ref 0), some (.int z), some (.int 4), none, none, none] μ = .rt v μ' ∧ Bx μ' ∧ GV n v := by
  obtain ⟨a, μ1, a0, a1, qa, h1⟩ := drawn (k := k) (m := 900) (by decide) h
  obtain ⟨b, μ2, b0, b1, qb, h2⟩ := drawn (k := k) (m := 900) (by decide) h1
  obtain ⟨r, μ3, r0, r1, qr, h3⟩ := drawn (k := k) (m := 4) (by decide) h2
  have qi : eqOk 64 (.int 4) = true ∧ eqOk 64 (.int 4) = true := ⟨rfl, rfl⟩
  have g4 : 4 ≤ 16777216 := by decide
  have p16 : (0 : Int) ≤ 16 ∧ (16 : Int) ≤ 1000000 ∧ (10 : Int).natAbs < 2 ^ 64 := by decide
  have p19 : (0 : Int) ≤ 19 ∧ (19 : Int) ≤ 1000000 ∧ (10 : Int).natAbs < 2 ^ 64 := by decide
  have e16 : (10 : Int) ^ (16 : Int).toNat = 10000000000000000 := by decide +kernel
  have e19 : (10 : Int) ^ (19 : Int).toNat = 10000000000000000000 := by decide +kernel
  have lm : lim64 a ∨ lim64 ((10 : Int) ^ (16 : Int).toNat) := .inl ⟨by omega, by omega⟩
  obtain ⟨N, hN⟩ : ∃ N, N = a * (10 : Int) ^ (16 : Int).toNat + b - 450 := ⟨_, rfl⟩
  have n1 : -450 ≤ N ∧ N < 9000000000000001000 := by
    rw [hN, e16]
    omega
  obtain ⟨v, hv, hg⟩ : ∃ v, atI ([.int N, .int (0 - N), .int ((10 : Int) ^ (19 : Int).toNat + N), .int 0] : List D) r = some v ∧ GV n v := by
    rcases (show r = 0 ∨ r = 1 ∨ r = 2 ∨ r = 3 by omega) with rfl | rfl | rfl | rfl
    · exact ⟨_, rfl, GV.int (by omega)⟩
    · exact ⟨_, rfl, GV.int (by omega)⟩
    · exact ⟨_, rfl, GV.int (by rw [e19]; omega)⟩
    · exact ⟨_, rfl, GV.int (by decide)⟩
  refine ⟨v, μ3, ifs_true (μ' := μ) (by simp only [bind_ok, then_ok, next_nx, next_rt, next_br, next_ct, finO_rt, finO_nx, runB, runS, evalE, evalEs, evalT, evalO, evalIt, evalR, assignT, startR, List.map_cons, List.map_nil, List.length_cons, List.length_nil, List.replicate_zero, List.replicate_succ, Nat.zero_add, Nat.reduceAdd, Nat.reduceSub, List.cons_append, List.nil_append, List.append_nil, List.set_cons_zero, List.set_cons_succ, List.getElem?_cons_succ, List.getElem?_cons_zero, idxD, seqD, binD, setIxD, cmpD, truD, bifD, isiD, Int.reduceNeg, Bool.not_true, Bool.not_false, ↓reduceIte, Bool.false_eq_true, Bool.true_eq_false, if_true, if_false, List.zip_cons_cons, List.zip_nil_right, List.zip_nil_left, List.foldl_cons, List.foldl_nil, tyf, Bool.or_false, Bool.false_or, Bool.or_true, Bool.true_or, Bool.or_self, deref, needs_pos qi, eqD, beq_self_eq_true]) (run_nx (ρ' := [some (.ref 0), some (.int z), some (.int 4), some (.int N), none, none]) (μ' := μ2) ?_ (run_rt ?_)), h3, hg⟩
  · simp only [bind_ok, then_ok, next_nx, next_rt, next_br, next_ct, finO_rt, finO_nx, runB, runS, evalE, evalEs, evalT, evalO, evalIt, evalR, assignT, startR, List.map_cons, List.map_nil, List.length_cons, List.length_nil, List.replicate_zero, List.replicate_succ, Nat.zero_add, Nat.reduceAdd, Nat.reduceSub, List.cons_append, List.nil_append, List.append_nil, List.set_cons_zero, List.set_cons_succ, List.getElem?_cons_succ, List.getElem?_cons_zero, idxD, seqD, binD, setIxD, cmpD, truD, bifD, isiD, Int.reduceNeg, Bool.not_true, Bool.not_false, ↓reduceIte, Bool.false_eq_true, Bool.true_eq_false, if_true, if_false, List.zip_cons_cons, List.zip_nil_right, List.zip_nil_left, List.foldl_cons, List.foldl_nil, tyf, Bool.or_false, Bool.false_or, Bool.or_true, Bool.true_or, Bool.or_self, qa, qb, needs_pos p16, needs_pos lm, ← hN]
  · simp only [bind_ok, then_ok, next_nx, next_rt, next_br, next_ct, finO_rt, finO_nx, runB, runS, evalE, evalEs, evalT, evalO, evalIt, evalR, assignT, startR, List.map_cons, List.map_nil, List.length_cons, List.length_nil, List.replicate_zero, List.replicate_succ, Nat.zero_add, Nat.reduceAdd, Nat.reduceSub, List.cons_append, List.nil_append, List.append_nil, List.set_cons_zero, List.set_cons_succ, List.getElem?_cons_succ, List.getElem?_cons_zero, idxD, seqD, binD, setIxD, cmpD, truD, bifD, isiD, Int.reduceNeg, Bool.not_true, Bool.not_false, ↓reduceIte, Bool.false_eq_true, Bool.true_eq_false, if_true, if_false, List.zip_cons_cons, List.zip_nil_right, List.zip_nil_left, List.foldl_cons, List.foldl_nil, tyf, Bool.or_false, Bool.false_or, Bool.or_true, Bool.true_or, Bool.or_self, needs_pos p19, needs_pos g4, qr, hv]
theorem vs5_ok {k n : Nat} {z : Int} {μ : Mu} (h : Bx μ) : ∃ v μ', runS (gg (k + 1)) vs5 [some (.ref 0), some (.int z), some (.int 5), none, none, none] μ = .rt v μ' ∧ Bx μ' ∧ GV n v := by
  obtain ⟨a, μ1, a0, a1, qa, h1⟩ := drawn (k := k) (m := 30) (by decide) h
  have qi : eqOk 64 (.int 5) = true ∧ eqOk 64 (.int 5) = true := ⟨rfl, rfl⟩
  refine ⟨_, μ1, ifs_true (μ' := μ) (by simp only [bind_ok, then_ok, next_nx, next_rt, next_br, next_ct, finO_rt, finO_nx, runB, runS, evalE, evalEs, evalT, evalO, evalIt, evalR, assignT, startR, List.map_cons, List.map_nil, List.length_cons, List.length_nil, List.replicate_zero, List.replicate_succ, Nat.zero_add, Nat.reduceAdd, Nat.reduceSub, List.cons_append, List.nil_append, List.append_nil, List.set_cons_zero, List.set_cons_succ, List.getElem?_cons_succ, List.getElem?_cons_zero, idxD, seqD, binD, setIxD, cmpD, truD, bifD, isiD, Int.reduceNeg, Bool.not_true, Bool.not_false, ↓reduceIte, Bool.false_eq_true, Bool.true_eq_false, if_true, if_false, List.zip_cons_cons, List.zip_nil_right, List.zip_nil_left, List.foldl_cons, List.foldl_nil, tyf, Bool.or_false, Bool.false_or, Bool.or_true, Bool.true_or, Bool.or_self, deref, needs_pos qi, eqD, beq_self_eq_true]) (run_rt (d := .int (a - 15)) ?_), h1, GV.int (by omega)⟩
  simp only [bind_ok, then_ok, next_nx, next_rt, next_br, next_ct, finO_rt, finO_nx, runB, runS, evalE, evalEs, evalT, evalO, evalIt, evalR, assignT, startR, List.map_cons, List.map_nil, List.length_cons, List.length_nil, List.replicate_zero, List.replicate_succ, Nat.zero_add, Nat.reduceAdd, Nat.reduceSub, List.cons_append, List.nil_append, List.append_nil, List.set_cons_zero, List.set_cons_succ, List.getElem?_cons_succ, List.getElem?_cons_zero, idxD, seqD, binD, setIxD, cmpD, truD, bifD, isiD, Int.reduceNeg, Bool.not_true, Bool.not_false, ↓reduceIte, Bool.false_eq_true, Bool.true_eq_false, if_true, if_false, List.zip_cons_cons, List.zip_nil_right, List.zip_nil_left, List.foldl_cons, List.foldl_nil, tyf, Bool.or_false, Bool.false_or, Bool.or_true, Bool.true_or, Bool.or_self, qa]
theorem signs_at {r : Int} : ∃ c, sgn c = true ∧ atI (tx SG).cps.toList (r % ((tx SG).length : Int)) = some c := by
  have hl : (tx SG).length = 45 := by rw [tx_len]; rfl
  have h0 := Int.emod_nonneg r (show (45 : Int) ≠ 0 by decide)
  have h1 := Int.emod_lt_of_pos r (show (0 : Int) < 45 by decide)
  rw [hl, tx_l]
  show ∃ c, sgn c = true ∧ atI SG (r % 45) = some c
  generalize r % 45 = q at *
  have hq : q.toNat < SG.length := by
    show q.toNat < 45
    omega
  refine ⟨SG[q.toNat], ?_, ?_⟩
  · have all : SG.all sgn = true := by decide
    exact List.all_eq_true.mp all _ (List.getElem_mem hq)
  · have := at_mem hq
    rw [show (0 : Int) + (q.toNat : Int) = q by omega] at this
    exact this
theorem vs7_ok {k n : Nat} {z kd : Int} {μ : Mu} (h : Bx μ) : ∃ v μ', runB (gg (k + 1)) (.cons vs6 (.cons vs7 .nil)) [some (.ref 0), some (.int z), some (.int kd), none, none, none] μ = .rt v μ' ∧ Bx μ' ∧ GV n v := by
  obtain ⟨r, μ1, r0, r1, qr, h1⟩ := drawn (k := k) (m := 9) (by decide) h
  have hs : ∀ r : Int, ∃ c, sgn c = true ∧ atI (tx SG).cps.toList (r % ((tx SG).length : Int)) = some c := fun r => signs_at
  have hp : (0 : Int) < ((tx SG).length : Int) := by rw [tx_len]; decide
  have hl : (tx SG).length ≤ 16777216 := by rw [tx_len]; decide
  have e18 : (" !\"#$&'()*+,-./0189:;<=>?@AZ[\\]^_`az{|}~\nnTFN" : Str) = tx SG := t_18
  have c := comp_inv (f := cbody (gg (k + 1)) [5] (.nm 5) .yes (.idx (.var 4) (.bin .mod (.bif .int (.cons (.call 12 (.cons (.var 0) (.cons (.cst (.int 900)) .nil))) .nil)) (.bif .len (.cons (.var 4) .nil)))) [some (.ref 0), some (.int z), some (.int kd), none, some (.str (tx SG)), none]) Bx (fun d => ∃ c, sgn c = true ∧ d = .str (tx [c]))
    (ds := rngD 0 r.toNat) (acc := []) (μ := μ1) (by
      intro d hd μ hμ
      obtain ⟨i, rfl⟩ := in_rng hd
      obtain ⟨q, μ2, q0, q1, qq, h2⟩ := drawn (k := k) (m := 900) (by decide) hμ
      obtain ⟨c, c1, c2⟩ := hs q
      refine ⟨_, μ2, cbody_nm ?_, ⟨c, c1, rfl⟩, h2⟩
      generalize tx SG = X at *
      simp only [bind_ok, then_ok, next_nx, next_rt, next_br, next_ct, finO_rt, finO_nx, runB, runS, evalE, evalEs, evalT, evalO, evalIt, evalR, assignT, startR, List.map_cons, List.map_nil, List.length_cons, List.length_nil, List.replicate_zero, List.replicate_succ, Nat.zero_add, Nat.reduceAdd, Nat.reduceSub, List.cons_append, List.nil_append, List.append_nil, List.set_cons_zero, List.set_cons_succ, List.getElem?_cons_succ, List.getElem?_cons_zero, idxD, seqD, binD, setIxD, cmpD, truD, bifD, isiD, Int.reduceNeg, Bool.not_true, Bool.not_false, ↓reduceIte, Bool.false_eq_true, Bool.true_eq_false, if_true, if_false, List.zip_cons_cons, List.zip_nil_right, List.zip_nil_left, List.foldl_cons, List.foldl_nil, tyf, Bool.or_false, Bool.false_or, Bool.or_true, Bool.true_or, Bool.or_self, wipeR, qq, needs_pos hp, needs_pos hl, c2]
      rfl) (by simp [rngD]; omega) (by simp) h1
  obtain ⟨l, μ2, c1, c2, c3, h2⟩ := c
  obtain ⟨cs, s1, rfl⟩ := signs_of c2
  have hcs : cs.length ≤ 8 := by
    simp [rngD] at c3
    omega
  have hc := comp_run (own := [5]) (tg := .nm 5) (c := .yes) (it_rng1 (Γ := gg (k + 1)) (a := .call 12 (.cons (.var 0) (.cons (.cst (.int 9)) .nil))) (ρ := [some (.ref 0), some (.int z), some (.int kd), none, some (.str (tx SG)), none]) (μ := μ) (μ' := μ1) (i := r) (n := r.toNat) (by simp only [bind_ok, then_ok, next_nx, next_rt, next_br, next_ct, finO_rt, finO_nx, runB, runS, evalE, evalEs, evalT, evalO, evalIt, evalR, assignT, startR, List.map_cons, List.map_nil, List.length_cons, List.length_nil, List.replicate_zero, List.replicate_succ, Nat.zero_add, Nat.reduceAdd, Nat.reduceSub, List.cons_append, List.nil_append, List.append_nil, List.set_cons_zero, List.set_cons_succ, List.getElem?_cons_succ, List.getElem?_cons_zero, idxD, seqD, binD, setIxD, cmpD, truD, bifD, isiD, Int.reduceNeg, Bool.not_true, Bool.not_false, ↓reduceIte, Bool.false_eq_true, Bool.true_eq_false, if_true, if_false, List.zip_cons_cons, List.zip_nil_right, List.zip_nil_left, List.foldl_cons, List.foldl_nil, tyf, Bool.or_false, Bool.false_or, Bool.or_true, Bool.true_or, Bool.or_self, qr]) (by omega) (by omega)) c1
  have est : strsOf (cs.map fun c => D.str (tx [c])) = some (cs.map fun c => tx [c]) := by
    have := strs_map (cs.map fun c => tx [c])
    rw [List.map_map] at this
    exact this
  have ej : Txt.join (tx []) (cs.map fun c => tx [c]) = tx cs := by
    have := tx_join [] (cs.map fun c => [c])
    rw [joinL_ones, List.map_map] at this
    exact this
  have es : ((cs.map fun c => tx [c]).map (·.length)).sum + (cs.map fun c => tx [c]).length * (tx []).length ≤ 16777216 := by
    rw [ones_sum, tx_len]
    simp only [List.length_nil]
    omega
  refine ⟨.str (tx cs), μ2, ?_, h2, GV.str s1 hcs⟩
  refine run_nx (ρ' := [some (.ref 0), some (.int z), some (.int kd), none, some (.str (tx SG)), none]) (μ' := μ) ?_ (run_rt ?_)
  · simp only [vs6, bind_ok, then_ok, next_nx, next_rt, next_br, next_ct, finO_rt, finO_nx, runB, runS, evalE, evalEs, evalT, evalO, evalIt, evalR, assignT, startR, List.map_cons, List.map_nil, List.length_cons, List.length_nil, List.replicate_zero, List.replicate_succ, Nat.zero_add, Nat.reduceAdd, Nat.reduceSub, List.cons_append, List.nil_append, List.append_nil, List.set_cons_zero, List.set_cons_succ, List.getElem?_cons_succ, List.getElem?_cons_zero, idxD, seqD, binD, setIxD, cmpD, truD, bifD, isiD, Int.reduceNeg, Bool.not_true, Bool.not_false, ↓reduceIte, Bool.false_eq_true, Bool.true_eq_false, if_true, if_false, List.zip_cons_cons, List.zip_nil_right, List.zip_nil_left, List.foldl_cons, List.foldl_nil, tyf, Bool.or_false, Bool.false_or, Bool.or_true, Bool.true_or, Bool.or_self, e18]
  · unfold vs7
    generalize E.comp _ _ _ _ _ = ec at hc ⊢
    simp only [bind_ok, then_ok, next_nx, next_rt, next_br, next_ct, finO_rt, finO_nx, runB, runS, evalE, evalEs, evalT, evalO, evalIt, evalR, assignT, startR, List.map_cons, List.map_nil, List.length_cons, List.length_nil, List.replicate_zero, List.replicate_succ, Nat.zero_add, Nat.reduceAdd, Nat.reduceSub, List.cons_append, List.nil_append, List.append_nil, List.set_cons_zero, List.set_cons_succ, List.getElem?_cons_succ, List.getElem?_cons_zero, idxD, seqD, binD, setIxD, cmpD, truD, bifD, isiD, Int.reduceNeg, Bool.not_true, Bool.not_false, ↓reduceIte, Bool.false_eq_true, Bool.true_eq_false, if_true, if_false, List.zip_cons_cons, List.zip_nil_right, List.zip_nil_left, List.foldl_cons, List.foldl_nil, tyf, Bool.or_false, Bool.false_or, Bool.or_true, Bool.true_or, Bool.or_self, tyD, needs_pos trivial, hc, metD, t_19, Option.bind, est, needs_pos es, ej]
theorem tail_ok {k n : Nat} {z kd : Int} {μ : Mu} (h : Bx μ) : ∃ v μ', runB (gg (k + 1)) (.cons vs3 (.cons vs4 (.cons vs5 (.cons vs6 (.cons vs7 .nil))))) [some (.ref 0), some (.int z), some (.int kd), none, none, none] μ = .rt v μ' ∧ Bx μ' ∧ GV n v := by
  have qi : ∀ a b : Int, eqOk 64 (.int a) = true ∧ eqOk 64 (.int b) = true := fun _ _ => ⟨rfl, rfl⟩
  by_cases k3 : kd = 3
  · subst k3
    obtain ⟨v, μ', e, r⟩ := vs3_ok (k := k) (n := n) (z := z) h
    exact ⟨v, μ', run_rt e, r⟩
  have b3 : (kd == 3) = false := beq_eq_false_iff_ne.mpr k3
  have e3 : runS (gg (k + 1)) vs3 [some (.ref 0), some (.int z), some (.int kd), none, none, none] μ = .nx [some (.ref 0), some (.int z), some (.int kd), none, none, none] μ := ifs_false (μ' := μ) (by simp only [bind_ok, then_ok, next_nx, next_rt, next_br, next_ct, finO_rt, finO_nx, runB, runS, evalE, evalEs, evalT, evalO, evalIt, evalR, assignT, startR, List.map_cons, List.map_nil, List.length_cons, List.length_nil, List.replicate_zero, List.replicate_succ, Nat.zero_add, Nat.reduceAdd, Nat.reduceSub, List.cons_append, List.nil_append, List.append_nil, List.set_cons_zero, List.set_cons_succ, List.getElem?_cons_succ, List.getElem?_cons_zero, idxD, seqD, binD, setIxD, cmpD, truD, bifD, isiD, Int.reduceNeg, Bool.not_true, Bool.not_false, ↓reduceIte, Bool.false_eq_true, Bool.true_eq_false, if_true, if_false, List.zip_cons_cons, List.zip_nil_right, List.zip_nil_left, List.foldl_cons, List.foldl_nil, tyf, Bool.or_false, Bool.false_or, Bool.or_true, Bool.true_or, Bool.or_self, deref, needs_pos (qi _ _), eqD, b3]) run_nil
  by_cases k4 : kd = 4
  · subst k4
    obtain ⟨v, μ', e, r⟩ := vs4_ok (k := k) (n := n) (z := z) h
    exact ⟨v, μ', run_nx e3 (run_rt e), r⟩
  have b4 : (kd == 4) = false := beq_eq_false_iff_ne.mpr k4
  have e4 : runS (gg (k + 1)) vs4 [some (.ref 0), some (.int z), some (.int kd), none, none, none] μ = .nx [some (.ref 0), some (.int z), some (.int kd), none, none, none] μ := ifs_false (μ' := μ) (by simp only [bind_ok, then_ok, next_nx, next_rt, next_br, next_ct, finO_rt, finO_nx, runB, runS, evalE, evalEs, evalT, evalO, evalIt, evalR, assignT, startR, List.map_cons, List.map_nil, List.length_cons, List.length_nil, List.replicate_zero, List.replicate_succ, Nat.zero_add, Nat.reduceAdd, Nat.reduceSub, List.cons_append, List.nil_append, List.append_nil, List.set_cons_zero, List.set_cons_succ, List.getElem?_cons_succ, List.getElem?_cons_zero, idxD, seqD, binD, setIxD, cmpD, truD, bifD, isiD, Int.reduceNeg, Bool.not_true, Bool.not_false, ↓reduceIte, Bool.false_eq_true, Bool.true_eq_false, if_true, if_false, List.zip_cons_cons, List.zip_nil_right, List.zip_nil_left, List.foldl_cons, List.foldl_nil, tyf, Bool.or_false, Bool.false_or, Bool.or_true, Bool.true_or, Bool.or_self, deref, needs_pos (qi _ _), eqD, b4]) run_nil
  by_cases k5 : kd = 5
  · subst k5
    obtain ⟨v, μ', e, r⟩ := vs5_ok (k := k) (n := n) (z := z) h
    exact ⟨v, μ', run_nx e3 (run_nx e4 (run_rt e)), r⟩
  have b5 : (kd == 5) = false := beq_eq_false_iff_ne.mpr k5
  have e5 : runS (gg (k + 1)) vs5 [some (.ref 0), some (.int z), some (.int kd), none, none, none] μ = .nx [some (.ref 0), some (.int z), some (.int kd), none, none, none] μ := ifs_false (μ' := μ) (by simp only [bind_ok, then_ok, next_nx, next_rt, next_br, next_ct, finO_rt, finO_nx, runB, runS, evalE, evalEs, evalT, evalO, evalIt, evalR, assignT, startR, List.map_cons, List.map_nil, List.length_cons, List.length_nil, List.replicate_zero, List.replicate_succ, Nat.zero_add, Nat.reduceAdd, Nat.reduceSub, List.cons_append, List.nil_append, List.append_nil, List.set_cons_zero, List.set_cons_succ, List.getElem?_cons_succ, List.getElem?_cons_zero, idxD, seqD, binD, setIxD, cmpD, truD, bifD, isiD, Int.reduceNeg, Bool.not_true, Bool.not_false, ↓reduceIte, Bool.false_eq_true, Bool.true_eq_false, if_true, if_false, List.zip_cons_cons, List.zip_nil_right, List.zip_nil_left, List.foldl_cons, List.foldl_nil, tyf, Bool.or_false, Bool.false_or, Bool.or_true, Bool.true_or, Bool.or_self, deref, needs_pos (qi _ _), eqD, b5]) run_nil
  obtain ⟨v, μ', e, r⟩ := vs7_ok (k := k) (n := n) (z := z) (kd := kd) h
  exact ⟨v, μ', run_nx e3 (run_nx e4 (run_nx e5 e)), r⟩
/-- every value drawn is good -/
theorem value_ok : ∀ (n k : Nat) (μ : Mu) (z : Int), z = n → n + 2 ≤ k → Bx μ → ∃ v μ', callD prg.tab prg.con prg.dic prg.wf k n_law_value [.ref 0, .int z] μ = .ok v μ' ∧ Bx μ' ∧ GV n v := by
  intro n
  induction n with
  | zero =>
    intro k μ z hz hk h
    obtain ⟨k, rfl⟩ : ∃ j, k = j + 2 := ⟨k - 2, by omega⟩
    obtain ⟨kd, μ1, d0, d1, q, h1⟩ := drawn (k := k) (m := 9) (by decide) h
    obtain ⟨v, μ2, e, h2, hv⟩ := tail_ok (k := k) (n := 0) (z := z) (kd := kd) h1
    have hz0 : ¬ 0 < z := by omega
    refine ⟨v, μ2, ?_, h2, hv⟩
    rw [c_law_value]
    have full : runB (gg (k + 1)) b_law_value (startR f_law_value.N.length [.ref 0, .int z]) μ = .rt v μ2 := by
      unfold b_law_value
      refine run_nx (ρ' := [some (.ref 0), some (.int z), some (.int kd), none, none, none]) (μ' := μ1) ?_ ?_
      · simp only [f_law_value, bind_ok, then_ok, next_nx, next_rt, next_br, next_ct, finO_rt, finO_nx, runB, runS, evalE, evalEs, evalT, evalO, evalIt, evalR, assignT, startR, List.map_cons, List.map_nil, List.length_cons, List.length_nil, List.replicate_zero, List.replicate_succ, Nat.zero_add, Nat.reduceAdd, Nat.reduceSub, List.cons_append, List.nil_append, List.append_nil, List.set_cons_zero, List.set_cons_succ, List.getElem?_cons_succ, List.getElem?_cons_zero, idxD, seqD, binD, setIxD, cmpD, truD, bifD, isiD, Int.reduceNeg, Bool.not_true, Bool.not_false, ↓reduceIte, Bool.false_eq_true, Bool.true_eq_false, if_true, if_false, List.zip_cons_cons, List.zip_nil_right, List.zip_nil_left, List.foldl_cons, List.foldl_nil, tyf, Bool.or_false, Bool.false_or, Bool.or_true, Bool.true_or, Bool.or_self, q]
      refine run_nx (ifs_false (μ' := μ1) ?_ run_nil) e
      by_cases hk3 : kd < 3
      · simp only [bind_ok, then_ok, next_nx, next_rt, next_br, next_ct, finO_rt, finO_nx, runB, runS, evalE, evalEs, evalT, evalO, evalIt, evalR, assignT, startR, List.map_cons, List.map_nil, List.length_cons, List.length_nil, List.replicate_zero, List.replicate_succ, Nat.zero_add, Nat.reduceAdd, Nat.reduceSub, List.cons_append, List.nil_append, List.append_nil, List.set_cons_zero, List.set_cons_succ, List.getElem?_cons_succ, List.getElem?_cons_zero, idxD, seqD, binD, setIxD, cmpD, truD, bifD, isiD, Int.reduceNeg, Bool.not_true, Bool.not_false, ↓reduceIte, Bool.false_eq_true, Bool.true_eq_false, if_true, if_false, List.zip_cons_cons, List.zip_nil_right, List.zip_nil_left, List.foldl_cons, List.foldl_nil, tyf, Bool.or_false, Bool.false_or, Bool.or_true, Bool.true_or, Bool.or_self, hk3, decide_true, hz0, decide_false]
      · simp only [bind_ok, then_ok, next_nx, next_rt, next_br, next_ct, finO_rt, finO_nx, runB, runS, evalE, evalEs, evalT, evalO, evalIt, evalR, assignT, startR, List.map_cons, List.map_nil, List.length_cons, List.length_nil, List.replicate_zero, List.replicate_succ, Nat.zero_add, Nat.reduceAdd, Nat.reduceSub, List.cons_append, List.nil_append, List.append_nil, List.set_cons_zero, List.set_cons_succ, List.getElem?_cons_succ, List.getElem?_cons_zero, idxD, seqD, binD, setIxD, cmpD, truD, bifD, isiD, Int.reduceNeg, Bool.not_true, Bool.not_false, ↓reduceIte, Bool.false_eq_true, Bool.true_eq_false, if_true, if_false, List.zip_cons_cons, List.zip_nil_right, List.zip_nil_left, List.foldl_cons, List.foldl_nil, tyf, Bool.or_false, Bool.false_or, Bool.or_true, Bool.true_or, Bool.or_self, hk3, decide_false]
    rw [full, finO_rt]
    obtain ⟨_, _, _, rfl⟩ := h
    obtain ⟨_, _, _, rfl⟩ := h2
    exact fin_same rfl
  | succ n ih =>
    intro k μ z hz hk h
    obtain ⟨k, rfl⟩ : ∃ j, k = j + 2 := ⟨k - 2, by omega⟩
    obtain ⟨kd, μ1, d0, d1, q, h1⟩ := drawn (k := k) (m := 9) (by decide) h
    have hz0 : 0 < z := by omega
    have fin2 : ∀ {v : D} {μ2 : Mu}, Bx μ2 → fin μ.length v μ2 = .ok v μ2 := fun h2 => by
      obtain ⟨_, _, _, rfl⟩ := h
      obtain ⟨_, _, _, rfl⟩ := h2
      exact fin_same rfl
    rw [c_law_value]
    by_cases hk3 : kd < 3
    · obtain ⟨r, μ2, r0, r1, qr, h2⟩ := drawn (k := k) (m := 4) (by decide) h1
      have c := comp_inv (f := cbody (gg (k + 1)) [5] (.nm 5) .yes (.call 15 (.cons (.var 0) (.cons (.bin .sub (.var 1) (.cst (.int 1))) .nil))) [some (.ref 0), some (.int z), some (.int kd), none, none, none]) Bx (GV n)
        (ds := rngD 0 r.toNat) (acc := []) (μ := μ2) (by
          intro d hd μ hμ
          obtain ⟨i, rfl⟩ := in_rng hd
          obtain ⟨v, μ3, e, h3, hv⟩ := ih (k + 1) μ (z - 1) (by omega) (by omega) hμ
          refine ⟨v, μ3, cbody_nm ?_, hv, h3⟩
          simp only [bind_ok, then_ok, next_nx, next_rt, next_br, next_ct, finO_rt, finO_nx, runB, runS, evalE, evalEs, evalT, evalO, evalIt, evalR, assignT, startR, List.map_cons, List.map_nil, List.length_cons, List.length_nil, List.replicate_zero, List.replicate_succ, Nat.zero_add, Nat.reduceAdd, Nat.reduceSub, List.cons_append, List.nil_append, List.append_nil, List.set_cons_zero, List.set_cons_succ, List.getElem?_cons_succ, List.getElem?_cons_zero, idxD, seqD, binD, setIxD, cmpD, truD, bifD, isiD, Int.reduceNeg, Bool.not_true, Bool.not_false, ↓reduceIte, Bool.false_eq_true, Bool.true_eq_false, if_true, if_false, List.zip_cons_cons, List.zip_nil_right, List.zip_nil_left, List.foldl_cons, List.foldl_nil, tyf, Bool.or_false, Bool.false_or, Bool.or_true, Bool.true_or, Bool.or_self, wipeR, e]) (by simp [rngD]; omega) (by simp) h2
      obtain ⟨l, μ3, c1, c2, c3, h3⟩ := c
      have hll : l.length ≤ 3 := by
        simp [rngD] at c3
        omega
      have hc := comp_run (own := [5]) (tg := .nm 5) (c := .yes) (it_rng1 (Γ := gg (k + 1)) (a := .call 12 (.cons (.var 0) (.cons (.cst (.int 4)) .nil))) (ρ := [some (.ref 0), some (.int z), some (.int kd), none, none, none]) (μ := μ1) (μ' := μ2) (i := r) (n := r.toNat) (by simp only [bind_ok, then_ok, next_nx, next_rt, next_br, next_ct, finO_rt, finO_nx, runB, runS, evalE, evalEs, evalT, evalO, evalIt, evalR, assignT, startR, List.map_cons, List.map_nil, List.length_cons, List.length_nil, List.replicate_zero, List.replicate_succ, Nat.zero_add, Nat.reduceAdd, Nat.reduceSub, List.cons_append, List.nil_append, List.append_nil, List.set_cons_zero, List.set_cons_succ, List.getElem?_cons_succ, List.getElem?_cons_zero, idxD, seqD, binD, setIxD, cmpD, truD, bifD, isiD, Int.reduceNeg, Bool.not_true, Bool.not_false, ↓reduceIte, Bool.false_eq_true, Bool.true_eq_false, if_true, if_false, List.zip_cons_cons, List.zip_nil_right, List.zip_nil_left, List.foldl_cons, List.foldl_nil, tyf, Bool.or_false, Bool.false_or, Bool.or_true, Bool.true_or, Bool.or_self, qr]) (by omega) (by omega)) c1
      refine ⟨.tup l, μ3, ?_, h3, GV.tup c2 hll⟩
      have full : runB (gg (k + 1)) b_law_value (startR f_law_value.N.length [.ref 0, .int z]) μ = .rt (.tup l) μ3 := by
        unfold b_law_value
        refine run_nx (ρ' := [some (.ref 0), some (.int z), some (.int kd), none, none, none]) (μ' := μ1) ?_ ?_
        · simp only [f_law_value, bind_ok, then_ok, next_nx, next_rt, next_br, next_ct, finO_rt, finO_nx, runB, runS, evalE, evalEs, evalT, evalO, evalIt, evalR, assignT, startR, List.map_cons, List.map_nil, List.length_cons, List.length_nil, List.replicate_zero, List.replicate_succ, Nat.zero_add, Nat.reduceAdd, Nat.reduceSub, List.cons_append, List.nil_append, List.append_nil, List.set_cons_zero, List.set_cons_succ, List.getElem?_cons_succ, List.getElem?_cons_zero, idxD, seqD, binD, setIxD, cmpD, truD, bifD, isiD, Int.reduceNeg, Bool.not_true, Bool.not_false, ↓reduceIte, Bool.false_eq_true, Bool.true_eq_false, if_true, if_false, List.zip_cons_cons, List.zip_nil_right, List.zip_nil_left, List.foldl_cons, List.foldl_nil, tyf, Bool.or_false, Bool.false_or, Bool.or_true, Bool.true_or, Bool.or_self, q]
        refine run_rt (ifs_true (μ' := μ1) ?_ (run_rt ?_))
        · simp only [bind_ok, then_ok, next_nx, next_rt, next_br, next_ct, finO_rt, finO_nx, runB, runS, evalE, evalEs, evalT, evalO, evalIt, evalR, assignT, startR, List.map_cons, List.map_nil, List.length_cons, List.length_nil, List.replicate_zero, List.replicate_succ, Nat.zero_add, Nat.reduceAdd, Nat.reduceSub, List.cons_append, List.nil_append, List.append_nil, List.set_cons_zero, List.set_cons_succ, List.getElem?_cons_succ, List.getElem?_cons_zero, idxD, seqD, binD, setIxD, cmpD, truD, bifD, isiD, Int.reduceNeg, Bool.not_true, Bool.not_false, ↓reduceIte, Bool.false_eq_true, Bool.true_eq_false, if_true, if_false, List.zip_cons_cons, List.zip_nil_right, List.zip_nil_left, List.foldl_cons, List.foldl_nil, tyf, Bool.or_false, Bool.false_or, Bool.or_true, Bool.true_or, Bool.or_self, hk3, decide_true, hz0]
        · generalize E.comp _ _ _ _ _ = ec at hc ⊢
          simp only [bind_ok, then_ok, next_nx, next_rt, next_br, next_ct, finO_rt, finO_nx, runB, runS, evalE, evalEs, evalT, evalO, evalIt, evalR, assignT, startR, List.map_cons, List.map_nil, List.length_cons, List.length_nil, List.replicate_zero, List.replicate_succ, Nat.zero_add, Nat.reduceAdd, Nat.reduceSub, List.cons_append, List.nil_append, List.append_nil, List.set_cons_zero, List.set_cons_succ, List.getElem?_cons_succ, List.getElem?_cons_zero, idxD, seqD, binD, setIxD, cmpD, truD, bifD, isiD, Int.reduceNeg, Bool.not_true, Bool.not_false, ↓reduceIte, Bool.false_eq_true, Bool.true_eq_false, if_true, if_false, List.zip_cons_cons, List.zip_nil_right, List.zip_nil_left, List.foldl_cons, List.foldl_nil, tyf, Bool.or_false, Bool.false_or, Bool.or_true, Bool.true_or, Bool.or_self, hc]
      rw [full, finO_rt]
      exact fin2 h3
    · obtain ⟨v, μ2, e, h2, hv⟩ := tail_ok (k := k) (n := n + 1) (z := z) (kd := kd) h1
      refine ⟨v, μ2, ?_, h2, hv⟩
      have full : runB (gg (k + 1)) b_law_value (startR f_law_value.N.length [.ref 0, .int z]) μ = .rt v μ2 := by
        unfold b_law_value
        refine run_nx (ρ' := [some (.ref 0), some (.int z), some (.int kd), none, none, none]) (μ' := μ1) ?_ ?_
        · simp only [f_law_value, bind_ok, then_ok, next_nx, next_rt, next_br, next_ct, finO_rt, finO_nx, runB, runS, evalE, evalEs, evalT, evalO, evalIt, evalR, assignT, startR, List.map_cons, List.map_nil, List.length_cons, List.length_nil, List.replicate_zero, List.replicate_succ, Nat.zero_add, Nat.reduceAdd, Nat.reduceSub, List.cons_append, List.nil_append, List.append_nil, List.set_cons_zero, List.set_cons_succ, List.getElem?_cons_succ, List.getElem?_cons_zero, idxD, seqD, binD, setIxD, cmpD, truD, bifD, isiD, Int.reduceNeg, Bool.not_true, Bool.not_false, ↓reduceIte, Bool.false_eq_true, Bool.true_eq_false, if_true, if_false, List.zip_cons_cons, List.zip_nil_right, List.zip_nil_left, List.foldl_cons, List.foldl_nil, tyf, Bool.or_false, Bool.false_or, Bool.or_true, Bool.true_or, Bool.or_self, q]
        refine run_nx (ifs_false (μ' := μ1) ?_ run_nil) e
        simp only [bind_ok, then_ok, next_nx, next_rt, next_br, next_ct, finO_rt, finO_nx, runB, runS, evalE, evalEs, evalT, evalO, evalIt, evalR, assignT, startR, List.map_cons, List.map_nil, List.length_cons, List.length_nil, List.replicate_zero, List.replicate_succ, Nat.zero_add, Nat.reduceAdd, Nat.reduceSub, List.cons_append, List.nil_append, List.append_nil, List.set_cons_zero, List.set_cons_succ, List.getElem?_cons_succ, List.getElem?_cons_zero, idxD, seqD, binD, setIxD, cmpD, truD, bifD, isiD, Int.reduceNeg, Bool.not_true, Bool.not_false, ↓reduceIte, Bool.false_eq_true, Bool.true_eq_false, if_true, if_false, List.zip_cons_cons, List.zip_nil_right, List.zip_nil_left, List.foldl_cons, List.foldl_nil, tyf, Bool.or_false, Bool.false_or, Bool.or_true, Bool.true_or, Bool.or_self, hk3, decide_false]
      rw [full, finO_rt]
      exact fin2 h2
end PyI.K30
namespace PyI.K30
open PySem L2
def uni (c : Nat) : Bool := decide (c < 0x110000)
theorem uni_int (i : Int) : (intL i).all uni = true := by
  have d : ∀ n, (TL.numL n).all uni = true := fun n => List.all_eq_true.mpr fun c hc => by
    have := TL.numL_digits n c hc
    unfold uni
    simp
    omega
  cases i with
  | ofNat n => exact d n
  | negSucc n =>
    show ((45 :: TL.numL (n + 1)).all uni) = true
    rw [List.all_cons, d]
    rfl
mutual
theorem plain_uni : ∀ {v : D}, okV v = true → (plainL v).all uni = true
  | .non, _ => by simp only [plainL]; decide
  | .bl true, _ => by simp only [plainL]; decide
  | .bl false, _ => by simp only [plainL]; decide
  | .int i, _ => by simp only [plainL]; exact uni_int i
  | .str s, h => by
    have h1 : (s.cps.toList.flatMap escT).all uni = true := by
      have := esc_sin (l := s.cps.toList) h
      rw [List.all_eq_true] at *
      intro c hc
      have := this c hc
      simp only [sin, Bool.and_eq_true, decide_eq_true_eq] at this
      unfold uni
      simp
      omega
    simp only [plainL, List.all_cons, List.all_append, h1, List.all_nil]
    decide
  | .tup l, h => by
    have h1 := plains_uni (l := l) h
    simp only [plainL, List.all_cons, List.all_append, h1, List.all_nil]
    decide
  | .ref _, h => by cases h
  | .lst _, h => by cases h
theorem plains_uni : ∀ {l : List D}, okVs l = true → (plainLs l).all uni = true
  | [], _ => rfl
  | [d], h => by
    simp only [okVs, Bool.and_true] at h
    exact plain_uni h
  | d :: e :: r, h => by
    have h' : okV d = true ∧ okVs (e :: r) = true := by simpa only [okVs, Bool.and_eq_true] using h
    simp only [plainLs, List.all_append, List.all_cons, plain_uni h'.1, plains_uni h'.2]
    decide
end
theorem Bx.pure {μ : Mu} (h : Bx μ) : PureM μ := by
  obtain ⟨ds, a, _, rfl⟩ := h
  intro m hm
  rw [List.mem_singleton.mp hm]
  exact ⟨_, rfl, by simp only [pureDs, pureD, pureDs_map (f := D.int) (fun _ => rfl) ds]; rfl⟩
def WV (j : Nat) (v : D) : Prop := okV v = true ∧ dep v ≤ 4 + j ∧ (plainL v).length ≤ 7680 + 2 * j
theorem wrap_loop {k j : Nat} {x0 x1 x2 x4 x5 : Option D} {v : D} {μ : Mu} (hv : WV 0 v) :
    ∃ ρ' μ', forLoop (fbody (gg k) (.nm 4) lwr) (chkOf none) (rngD 0 j) [x0, x1, x2, some v, x4, x5] μ = .nx ρ' μ' ∧ μ' = μ ∧ ∃ v' o4, WV j v' ∧ ρ' = [x0, x1, x2, some v', o4, x5] := by
  refine for_range (fun j ρ ν => ν = μ ∧ ∃ v' o4, WV j v' ∧ ρ = [x0, x1, x2, some v', o4, x5]) ⟨rfl, v, x4, hv, rfl⟩ ?_
  rintro i hi ρ ν ⟨rfl, v', o4, ⟨w1, w2, w3⟩, rfl⟩
  have g1 : 1 ≤ 16777216 := by decide
  refine .inl ⟨[x0, x1, x2, some (.tup [v']), some (.int ((0 : Int) + (i : Int))), x5], ν, ?_, rfl, .tup [v'], _, ⟨by simp only [okV, okVs, w1]; rfl, ?_, ?_⟩, rfl⟩
  · generalize (0 : Int) + (i : Int) = z
    simp only [fbody_nm, lwr, bind_ok, then_ok, next_nx, next_rt, next_br, next_ct, finO_rt, finO_nx, runB, runS, evalE, evalEs, evalT, evalO, evalIt, evalR, assignT, startR, List.map_cons, List.map_nil, List.length_cons, List.length_nil, List.replicate_zero, List.replicate_succ, Nat.zero_add, Nat.reduceAdd, Nat.reduceSub, List.cons_append, List.nil_append, List.append_nil, List.set_cons_zero, List.set_cons_succ, List.getElem?_cons_succ, List.getElem?_cons_zero, idxD, seqD, binD, setIxD, cmpD, truD, bifD, isiD, Int.reduceNeg, Bool.not_true, Bool.not_false, ↓reduceIte, Bool.false_eq_true, Bool.true_eq_false, if_true, if_false, List.zip_cons_cons, List.zip_nil_right, List.zip_nil_left, List.foldl_cons, List.foldl_nil, tyf, Bool.or_false, Bool.false_or, Bool.or_true, Bool.true_or, Bool.or_self, needs_pos g1]
  · simp only [dep, deps]
    omega
  · simp only [plainL, plainLs, List.length_cons, List.length_append, List.length_nil]
    omega
theorem turn_ok {k : Nat} (hk : 130 ≤ k) {X : D} {i : Int} {o3 o4 o5 : Option D} {μ : Mu} (h : Bx μ) :
    ∃ ρ' μ', runB (gg (k + 1)) lbo [some X, some (.ref 0), some (.int i), o3, o4, o5] μ = .nx ρ' μ' ∧ Bx μ' ∧ ∃ a b c d, ρ' = [some X, some (.ref 0), a, b, c, d] := by
  obtain ⟨v, μ1, e1, h1, g1, g2, g3⟩ := value_ok 4 (k + 1) μ 4 rfl (by omega) h
  obtain ⟨r, μ2, r0, r1, qr, h2⟩ := drawn (k := k) (m := 4) (by decide) h1
  have g4 : 4 ≤ 16777216 := by decide
  obtain ⟨m, hm, hat⟩ : ∃ m : Nat, m ≤ 56 ∧ atI ([.int 0, .int 0, .int 0, .int 56] : List D) r = some (.int m) := by
    rcases (show r = 0 ∨ r = 1 ∨ r = 2 ∨ r = 3 by omega) with rfl | rfl | rfl | rfl
    · exact ⟨0, by omega, rfl⟩
    · exact ⟨0, by omega, rfl⟩
    · exact ⟨0, by omega, rfl⟩
    · exact ⟨56, by omega, rfl⟩
  obtain ⟨ρ2, μ2', e2, rfl, v', o4', ⟨w1, w2, w3⟩, rfl⟩ := wrap_loop (k := k + 1) (j := m) (x0 := some X) (x1 := some (.ref 0)) (x2 := some (.int i)) (x4 := o4) (x5 := o5) (v := v) (μ := μ2) ⟨g1, g2, g3⟩
  have e3 := plained w1 (k + 1) (by omega) μ2' (by omega)
  have e4 := shown w1 (k + 1) (by omega) μ2' (by omega)
  have e5 := same_str (k := k) (s := tx (plainL v')) (μ := μ2') (by rw [tx_all]; exact plain_uni w1)
  have e6 := read_plain_ok (k := k) (d := v') (μ := μ2') h2.pure w1 (by omega) (by omega) (by omega)
  have e7 := same w1 (k + 1) μ2' (by omega) (by omega)
  unfold cl at e3 e4 e5 e6 e7
  refine ⟨[some X, some (.ref 0), some (.int i), some v', o4', some (.str (tx (plainL v')))], μ2', ?_, h2, _, _, _, _, rfl⟩
  show runB (gg (k + 1)) (.cons lt1 (.cons lt2 (.cons lt3 (.cons lt4 .nil)))) _ _ = _
  refine run_nx (ρ' := [some X, some (.ref 0), some (.int i), some v, o4, o5]) (μ' := μ1) ?_ ?_
  · simp only [lt1, bind_ok, then_ok, next_nx, next_rt, next_br, next_ct, finO_rt, finO_nx, runB, runS, evalE, evalEs, evalT, evalO, evalIt, evalR, assignT, startR, List.map_cons, List.map_nil, List.length_cons, List.length_nil, List.replicate_zero, List.replicate_succ, Nat.zero_add, Nat.reduceAdd, Nat.reduceSub, List.cons_append, List.nil_append, List.append_nil, List.set_cons_zero, List.set_cons_succ, List.getElem?_cons_succ, List.getElem?_cons_zero, idxD, seqD, binD, setIxD, cmpD, truD, bifD, isiD, Int.reduceNeg, Bool.not_true, Bool.not_false, ↓reduceIte, Bool.false_eq_true, Bool.true_eq_false, if_true, if_false, List.zip_cons_cons, List.zip_nil_right, List.zip_nil_left, List.foldl_cons, List.foldl_nil, tyf, Bool.or_false, Bool.false_or, Bool.or_true, Bool.true_or, Bool.or_self, e1]
  have hit := it_rng1 (Γ := gg (k + 1)) (a := .idx (.lst (.cons (.cst (.int 0)) (.cons (.cst (.int 0)) (.cons (.cst (.int 0)) (.cons (.cst (.int 56)) .nil))))) (.call 12 (.cons (.var 1) (.cons (.cst (.int 4)) .nil)))) (ρ := [some X, some (.ref 0), some (.int i), some v, o4, o5]) (μ := μ1) (μ' := μ2') (i := (m : Int)) (n := m) (by
    generalize (m : Int) = mz at hat ⊢
    simp only [bind_ok, then_ok, next_nx, next_rt, next_br, next_ct, finO_rt, finO_nx, runB, runS, evalE, evalEs, evalT, evalO, evalIt, evalR, assignT, startR, List.map_cons, List.map_nil, List.length_cons, List.length_nil, List.replicate_zero, List.replicate_succ, Nat.zero_add, Nat.reduceAdd, Nat.reduceSub, List.cons_append, List.nil_append, List.append_nil, List.set_cons_zero, List.set_cons_succ, List.getElem?_cons_succ, List.getElem?_cons_zero, idxD, seqD, binD, setIxD, cmpD, truD, bifD, isiD, Int.reduceNeg, Bool.not_true, Bool.not_false, ↓reduceIte, Bool.false_eq_true, Bool.true_eq_false, if_true, if_false, List.zip_cons_cons, List.zip_nil_right, List.zip_nil_left, List.foldl_cons, List.foldl_nil, tyf, Bool.or_false, Bool.false_or, Bool.or_true, Bool.true_or, Bool.or_self, needs_pos g4, qr, hat]) rfl (by omega)
  refine run_nx (for_run' hit e2) ?_
  refine run_nx (ρ' := [some X, some (.ref 0), some (.int i), some v', o4', some (.str (tx (plainL v')))]) (μ' := μ2') ?_ ?_
  · simp only [lt3, bind_ok, then_ok, next_nx, next_rt, next_br, next_ct, finO_rt, finO_nx, runB, runS, evalE, evalEs, evalT, evalO, evalIt, evalR, assignT, startR, List.map_cons, List.map_nil, List.length_cons, List.length_nil, List.replicate_zero, List.replicate_succ, Nat.zero_add, Nat.reduceAdd, Nat.reduceSub, List.cons_append, List.nil_append, List.append_nil, List.set_cons_zero, List.set_cons_succ, List.getElem?_cons_succ, List.getElem?_cons_zero, idxD, seqD, binD, setIxD, cmpD, truD, bifD, isiD, Int.reduceNeg, Bool.not_true, Bool.not_false, ↓reduceIte, Bool.false_eq_true, Bool.true_eq_false, if_true, if_false, List.zip_cons_cons, List.zip_nil_right, List.zip_nil_left, List.foldl_cons, List.foldl_nil, tyf, Bool.or_false, Bool.false_or, Bool.or_true, Bool.true_or, Bool.or_self, e3]
  refine run_nx (ifs_false (μ' := μ2') ?_ run_nil) run_nil
  generalize tx (plainL v') = T at *
  simp only [bind_ok, then_ok, next_nx, next_rt, next_br, next_ct, finO_rt, finO_nx, runB, runS, evalE, evalEs, evalT, evalO, evalIt, evalR, assignT, startR, List.map_cons, List.map_nil, List.length_cons, List.length_nil, List.replicate_zero, List.replicate_succ, Nat.zero_add, Nat.reduceAdd, Nat.reduceSub, List.cons_append, List.nil_append, List.append_nil, List.set_cons_zero, List.set_cons_succ, List.getElem?_cons_succ, List.getElem?_cons_zero, idxD, seqD, binD, setIxD, cmpD, truD, bifD, isiD, Int.reduceNeg, Bool.not_true, Bool.not_false, ↓reduceIte, Bool.false_eq_true, Bool.true_eq_false, if_true, if_false, List.zip_cons_cons, List.zip_nil_right, List.zip_nil_left, List.foldl_cons, List.foldl_nil, tyf, Bool.or_false, Bool.false_or, Bool.or_true, Bool.true_or, Bool.or_self, e4, e5, e6, e7]
theorem main (ns : List Int) (h : ns.length ≤ 63) : ∃ μ', callD prg.tab prg.con prg.dic prg.wf 200 n_law [.lst (ns.map D.int)] [] = .ok (.bl true) μ' := by
  obtain ⟨ds, e⟩ := digits_ok (k := 197) (ns := ns) (μ := []) (fun m hm => by cases hm)
  refine ⟨[], ?_⟩
  show callD prg.tab prg.con prg.dic prg.wf (199 + 1) n_law [.lst (ns.map D.int)] [] = _
  rw [c_law]
  have g2 : 2 ≤ 16777216 := by decide
  have e' : callD prg.tab prg.con prg.dic prg.wf 199 n_law_digits [.lst (ns.map D.int), .int 0, .int 63] [] = .ok (.lst (ds.map D.int)) [] := e
  generalize hX : D.lst (ns.map D.int) = X at *
  have loop := for_range (f := fbody (gg 199) (.nm 2) lbo) (lo := 0) (n := 6) (ρ := [some X, some (.ref 0), none, none, none, none]) (μ := [.lst [.lst (ds.map D.int), .int 0]])
    (fun _ ρ ν => Bx ν ∧ ∃ a b c d, ρ = [some X, some (.ref 0), a, b, c, d]) ⟨⟨ds, 0, Int.le_refl _, rfl⟩, _, _, _, _, rfl⟩ (by
      rintro i hi ρ ν ⟨hb, a, b, c, d, rfl⟩
      obtain ⟨ρ', μ', q1, q2, q3⟩ := turn_ok (k := 198) (by omega) (X := X) (i := (0 : Int) + (i : Int)) (o3 := b) (o4 := c) (o5 := d) hb
      exact .inl ⟨ρ', μ', q1, q2, q3⟩)
  obtain ⟨ρ', μ', q1, hb, a, b, c, d, rfl⟩ := loop
  have full : runB (gg 199) b_law (startR f_law.N.length [X]) [] = .rt (.bl true) μ' := by
    unfold b_law
    refine run_nx (ρ' := [some X, some (.ref 0), none, none, none, none]) (μ' := [.lst [.lst (ds.map D.int), .int 0]]) ?_ ?_
    · generalize ds.map D.int = dl at e'
      simp only [f_law, bind_ok, then_ok, next_nx, next_rt, next_br, next_ct, finO_rt, finO_nx, runB, runS, evalE, evalEs, evalT, evalO, evalIt, evalR, assignT, startR, List.map_cons, List.map_nil, List.length_cons, List.length_nil, List.replicate_zero, List.replicate_succ, Nat.zero_add, Nat.reduceAdd, Nat.reduceSub, List.cons_append, List.nil_append, List.append_nil, List.set_cons_zero, List.set_cons_succ, List.getElem?_cons_succ, List.getElem?_cons_zero, idxD, seqD, binD, setIxD, cmpD, truD, bifD, isiD, Int.reduceNeg, Bool.not_true, Bool.not_false, ↓reduceIte, Bool.false_eq_true, Bool.true_eq_false, if_true, if_false, List.zip_cons_cons, List.zip_nil_right, List.zip_nil_left, List.foldl_cons, List.foldl_nil, tyf, Bool.or_false, Bool.false_or, Bool.or_true, Bool.true_or, Bool.or_self, e', needs_pos g2]
    refine run_nx (for_run' (it_rng1 (i := 6) (n := 6) (by simp only [bind_ok, then_ok, next_nx, next_rt, next_br, next_ct, finO_rt, finO_nx, runB, runS, evalE, evalEs, evalT, evalO, evalIt, evalR, assignT, startR, List.map_cons, List.map_nil, List.length_cons, List.length_nil, List.replicate_zero, List.replicate_succ, Nat.zero_add, Nat.reduceAdd, Nat.reduceSub, List.cons_append, List.nil_append, List.append_nil, List.set_cons_zero, List.set_cons_succ, List.getElem?_cons_succ, List.getElem?_cons_zero, idxD, seqD, binD, setIxD, cmpD, truD, bifD, isiD, Int.reduceNeg, Bool.not_true, Bool.not_false, ↓reduceIte, Bool.false_eq_true, Bool.true_eq_false, if_true, if_false, List.zip_cons_cons, List.zip_nil_right, List.zip_nil_left, List.foldl_cons, List.foldl_nil, tyf, Bool.or_false, Bool.false_or, Bool.or_true, Bool.true_or, Bool.or_self]) rfl (by omega)) q1) (run_rt ?_)
    simp only [bind_ok, then_ok, next_nx, next_rt, next_br, next_ct, finO_rt, finO_nx, runB, runS, evalE, evalEs, evalT, evalO, evalIt, evalR, assignT, startR, List.map_cons, List.map_nil, List.length_cons, List.length_nil, List.replicate_zero, List.replicate_succ, Nat.zero_add, Nat.reduceAdd, Nat.reduceSub, List.cons_append, List.nil_append, List.append_nil, List.set_cons_zero, List.set_cons_succ, List.getElem?_cons_succ, List.getElem?_cons_zero, idxD, seqD, binD, setIxD, cmpD, truD, bifD, isiD, Int.reduceNeg, Bool.not_true, Bool.not_false, ↓reduceIte, Bool.false_eq_true, Bool.true_eq_false, if_true, if_false, List.zip_cons_cons, List.zip_nil_right, List.zip_nil_left, List.foldl_cons, List.foldl_nil, tyf, Bool.or_false, Bool.false_or, Bool.or_true, Bool.true_or, Bool.or_self]
  rw [full, finO_rt]
  obtain ⟨ds', a', _, rfl⟩ := hb
  exact fin_one (μ := []) (fun m hm => by cases hm) rfl
end PyI.K30
open PySem PySem.W PyProof.Rows
set_option maxRecDepth 100000 in
set_option maxHeartbeats 0 in
theorem PySem.Challenge.cw_sensekept_k30_plain_there_and_back_holds : PySem.Challenge.rw_sensekept_k30_plain_there_and_back.Holds := by
  w_on; o_law; k_head; (case hw => w_witness2)
  k_fill
  refine PyI.law_walk (p := PyI.K30.prg) (ct := ⟨fun _ => 0⟩) (f := PyI.K30.n_law) (kk := 200) rfl rfl ⟨rfl, by decide, by decide⟩ (fun w h Y => PySem.W.kIn_of Y) PyI.K30.main ?F
  case F =>
    intro w mg fa h KX G hmg
    refine PyI.law_fn PyI.K30.prg_ok ⟨?bi, ?con, ?dic, ?fn⟩ ⟨fun _ => 0⟩ hmg rfl rfl rfl 200
    case bi =>
      refine' PyI.biAll KX G ?z0 ?z1 ?z2 ?z3 ?z4 ?z5 ?z6 ?z7 ?z8 ?z9 ?z10 ?z11 ?z12 ?z13 ?z14 ?z15 ?z16 ?z17 ?z18 ?z19 ?z20
      (case z0 => k_is); (case z1 => k_is); (case z2 => k_is); (case z3 => k_is); (case z4 => k_is); (case z5 => k_is); (case z6 => k_is); (case z7 => k_is); (case z8 => k_is); (case z9 => k_is); (case z10 => k_is); (case z11 => k_is); (case z12 => k_is); (case z13 => k_is); (case z14 => k_is); (case z15 => k_is); (case z16 => k_is); (case z17 => k_is); (case z18 => k_is); (case z19 => k_is); (case z20 => k_is)
    case con =>
      intro g x d h1 h2
      rcases g with _ | _ | g
      · obtain rfl : ("MOST_DIGITS" : PySem.Str) = x := Option.some.inj h1
        obtain rfl : ((.int 20) : PyI.D) = d := Option.some.inj h2
        refine' PyI.conInt KX G ?c; (case c => k_is)
      · obtain rfl : ("MOST_DEEP" : PySem.Str) = x := Option.some.inj h1
        obtain rfl : ((.int 60) : PyI.D) = d := Option.some.inj h2
        refine' PyI.conInt KX G ?c; (case c => k_is)
      · cases h1
    case dic =>
      intro g x h1
      rcases g with _ | g
      · obtain rfl : ("WORDS" : PySem.Str) = x := Option.some.inj h1
        refine' PyI.dicAt KX G ?a ?l ?lit ?low ?er; (case a => k_is); (case l => k_is)
        case lit => exact ⟨⟨_, _, rfl, rfl⟩, ⟨_, _, rfl, rfl⟩, ⟨_, _, rfl, rfl⟩, trivial⟩
        case low => first | rfl | decide
        case er => exact .cons ⟨⟨_, rfl⟩, .bl _, rfl, fun _ _ => .bl _⟩ (.cons ⟨⟨_, rfl⟩, .bl _, rfl, fun _ _ => .bl _⟩ (.cons ⟨⟨_, rfl⟩, .non, rfl, fun _ _ => .non⟩ (.nil)))
      · cases h1
    case fn =>
      intro d hd
      simp only [PyI.K30.prg, List.mem_cons, List.not_mem_nil, or_false] at hd
      rcases hd with rfl | rfl | rfl | rfl | rfl | rfl | rfl | rfl | rfl | rfl | rfl | rfl | rfl | rfl | rfl | rfl | rfl
      · refine' PyI.defAt (name := "show_plain") (qual := "show_plain") (st := PyI.K30.top 7) KX G PyI.K30.bn_show_plain ?a ?l ?c ?k; (case a => k_is); (case l => k_is); (case c => k_is); (case k => k_is)
      · refine' PyI.defAt (name := "show_quoted") (qual := "show_quoted") (st := PyI.K30.top 8) KX G PyI.K30.bn_show_quoted ?a ?l ?c ?k; (case a => k_is); (case l => k_is); (case c => k_is); (case k => k_is)
      · refine' PyI.defAt (name := "read_plain") (qual := "read_plain") (st := PyI.K30.top 9) KX G PyI.K30.bn_read_plain ?a ?l ?c ?k; (case a => k_is); (case l => k_is); (case c => k_is); (case k => k_is)
      · refine' PyI.defAt (name := "read_value") (qual := "read_value") (st := PyI.K30.top 10) KX G PyI.K30.bn_read_value ?a ?l ?c ?k; (case a => k_is); (case l => k_is); (case c => k_is); (case k => k_is)
      · refine' PyI.defAt (name := "read_members") (qual := "read_members") (st := PyI.K30.top 11) KX G PyI.K30.bn_read_members ?a ?l ?c ?k; (case a => k_is); (case l => k_is); (case c => k_is); (case k => k_is)
      · refine' PyI.defAt (name := "read_number") (qual := "read_number") (st := PyI.K30.top 12) KX G PyI.K30.bn_read_number ?a ?l ?c ?k; (case a => k_is); (case l => k_is); (case c => k_is); (case k => k_is)
      · refine' PyI.defAt (name := "read_quoted") (qual := "read_quoted") (st := PyI.K30.top 13) KX G PyI.K30.bn_read_quoted ?a ?l ?c ?k; (case a => k_is); (case l => k_is); (case c => k_is); (case k => k_is)
      · refine' PyI.defAt (name := "can_be_quoted") (qual := "can_be_quoted") (st := PyI.K30.top 14) KX G PyI.K30.bn_can_be_quoted ?a ?l ?c ?k; (case a => k_is); (case l => k_is); (case c => k_is); (case k => k_is)
      · refine' PyI.defAt (name := "unescaped") (qual := "unescaped") (st := PyI.K30.top 15) KX G PyI.K30.bn_unescaped ?a ?l ?c ?k; (case a => k_is); (case l => k_is); (case c => k_is); (case k => k_is)
      · refine' PyI.defAt (name := "wrong_place") (qual := "wrong_place") (st := PyI.K30.top 16) KX G PyI.K30.bn_wrong_place ?a ?l ?c ?k; (case a => k_is); (case l => k_is); (case c => k_is); (case k => k_is)
      · refine' PyI.defAt (name := "_law_cell") (qual := "_law_cell") (st := PyI.K30.top 18) KX G PyI.K30.bn_law_cell ?a ?l ?c ?k; (case a => k_is); (case l => k_is); (case c => k_is); (case k => k_is)
      · refine' PyI.defAt (name := "_law_digits") (qual := "_law_digits") (st := PyI.K30.top 19) KX G PyI.K30.bn_law_digits ?a ?l ?c ?k; (case a => k_is); (case l => k_is); (case c => k_is); (case k => k_is)
      · refine' PyI.defAt (name := "_law_draw") (qual := "_law_draw") (st := PyI.K30.top 20) KX G PyI.K30.bn_law_draw ?a ?l ?c ?k; (case a => k_is); (case l => k_is); (case c => k_is); (case k => k_is)
      · refine' PyI.defAt (name := "_law_same") (qual := "_law_same") (st := PyI.K30.top 21) KX G PyI.K30.bn_law_same ?a ?l ?c ?k; (case a => k_is); (case l => k_is); (case c => k_is); (case k => k_is)
      · refine' PyI.defAt (name := "_law_plain") (qual := "_law_plain") (st := PyI.K30.top 22) KX G PyI.K30.bn_law_plain ?a ?l ?c ?k; (case a => k_is); (case l => k_is); (case c => k_is); (case k => k_is)
      · refine' PyI.defAt (name := "_law_value") (qual := "_law_value") (st := PyI.K30.top 23) KX G PyI.K30.bn_law_value ?a ?l ?c ?k; (case a => k_is); (case l => k_is); (case c => k_is); (case k => k_is)
      · refine' PyI.defAt (name := "law") (qual := "law") (st := PyI.K30.top 24) KX G PyI.K30.bn_law ?a ?l ?c ?k; (case a => k_is); (case l => k_is); (case c => k_is); (case k => k_is)
