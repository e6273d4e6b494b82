import PyProof.Rows.All
import Wide.All
import OpenK.AllK
import Wide.FinOn
import HandS.ForMost
import HandS.ForExc
import HandS.Conv
import HandS.Deep
import HandS.IsInst
import HandS.SortOrd
import HandS.WideMore
import HandS.TupAny
import KE.KDictKeyed
import KE.KeyNested
import HandS.StrMore
import HandS.SetKeys
import KE.GoesEnum
import KE.GoesMore
import HandS.Style
import HandS.SetFor
import HandS.SortInts
import HandS.SortRule
import KE.DataMinMax
import HandS.TupSets
import KE.DatumOrd
import KE.KDictSum
import HandS.TryOnly
import PySem.Challenge.RW_quarterfold_k85_fewest_leaves_of_all_mov
set_option Elab.async false
set_option linter.all false
set_option maxRecDepth 100000
set_option maxHeartbeats 4000000
/-! QA: data over the heap: values with their tuples and finished lists as plain data; what is still changed stands in a small map. -/
namespace QF
open PySem L2

inductive D where
  | non | bl (b : Bool) | int (i : Int) | str (x : Str) | ty (n : String) | tup (xs : List D) | lst (xs : List D) | scr (xs : List D) | ref (a : Addr)

mutual
def D.norm : D → NestedKey
  | .non => .none
  | .bl b => .num (if b = true then 1 else 0)
  | .int i => .num i
  | .str x => .text x
  | .ty _ => .none
  | .tup ds => .tup (D.norms ds)
  | .lst _ => .none
  | .scr _ => .none
  | .ref _ => .none
def D.norms : List D → List NestedKey
  | [] => []
  | d :: ds => d.norm :: D.norms ds
end
mutual
/-- may be (part of) a key -/
def D.keyable : D → Bool
  | .non => true
  | .bl _ => true
  | .int _ => true
  | .str _ => true
  | .ty _ => false
  | .tup ds => D.keyables ds
  | .lst _ => false
  | .scr _ => false
  | .ref _ => false
def D.keyables : List D → Bool
  | [] => true
  | d :: ds => d.keyable && D.keyables ds
end
mutual
def D.py : D → PyData
  | .non => .none
  | .bl b => .bool b
  | .int i => .int i
  | .str x => .str x
  | .ty _ => .none
  | .tup ds => .tuple (D.pys ds)
  | .lst ds => .list (D.pys ds)
  | .scr ds => .list (D.pys ds)
  | .ref _ => .none
def D.pys : List D → List PyData
  | [] => []
  | d :: ds => d.py :: D.pys ds
end
mutual
/-- plain data: nothing that is still changed, no class -/
def D.flat : D → Bool
  | .non => true
  | .bl _ => true
  | .int _ => true
  | .str _ => true
  | .ty _ => false
  | .tup ds => D.flats ds
  | .lst ds => D.flats ds
  | .scr ds => D.flats ds
  | .ref _ => false
def D.flats : List D → Bool
  | [] => true
  | d :: ds => d.flat && D.flats ds
end

/-- what stands at an address that may still be changed -/
inductive DO where
  | lst (xs : List D)
  | dk (kvs : List (D × D))
  | dn (kvs : List (D × D))
  | lk (od : Obj) (u : HO) (kvs : List (D × D))
  | ins (C : Addr) (fs : List (Str × D))

abbrev DG := Addr → Option DO
def up (G : DG) (a : Addr) (o : DO) : DG := fun b => if b = a then some o else G b
theorem up_same {G : DG} {a : Addr} {o : DO} : up G a o a = some o := by unfold up; rw [if_pos rfl]
theorem up_ne {G : DG} {a b : Addr} {o : DO} (h : b ≠ a) : up G a o b = G b := by unfold up; rw [if_neg h]
theorem up_up {G : DG} {a : Addr} {o u : DO} : up (up G a o) a u = up G a u := by
  funext b; unfold up; split <;> rfl
def del (G : DG) (a : Addr) : DG := fun b => if b = a then none else G b
theorem del_same {G : DG} {a : Addr} : del G a a = none := by unfold del; rw [if_pos rfl]
theorem del_ne {G : DG} {a b : Addr} (h : b ≠ a) : del G a b = G b := by unfold del; rw [if_neg h]

structure Bk where
  P : Program
  w : World
  K : PySem.W.Frag
abbrev bkx (X : Cx) : Bk := ⟨X.prog, X.w, X.K⟩

mutual
inductive IsD (K : PySem.W.Frag) (H : Hp) (G : DG) : V → D → Prop
  | non : IsD K H G .non .non
  | bl (b : Bool) : IsD K H G (.bl b) (.bl b)
  | int (i : Int) : IsD K H G (.int i) (.int i)
  | str (x : Str) : IsD K H G (.str x) (.str x)
  | ty (n : String) : IsD K H G (.ty n) (.ty n)
  | ref (a : Addr) : IsD K H G (.ref a) (.ref a)
  | tup {a : Addr} {vs : List V} {ds : List D} : SqT K H a vs → IsDs K H G vs ds → IsD K H G (.ref a) (.tup ds)
  | lst {a : Addr} {vs : List V} {ds : List D} : H a = some (.lst vs) → G a = none → IsDs K H G vs ds → IsD K H G (.ref a) (.lst ds)
  | scr {a : Addr} {vs : List V} {ds : List D} : Rd H a (.lst vs) → G a = none → IsDs K H G vs ds → IsD K H G (.ref a) (.scr ds)
  | scrK {a : Addr} {vs : List V} {ds : List D} : SqL K (fun _ => none) a vs → IsDs K H G vs ds → IsD K H G (.ref a) (.scr ds)
inductive IsDs (K : PySem.W.Frag) (H : Hp) (G : DG) : List V → List D → Prop
  | nil : IsDs K H G [] []
  | cons {v : V} {vs : List V} {d : D} {ds : List D} : IsD K H G v d → IsDs K H G vs ds → IsDs K H G (v :: vs) (d :: ds)
end

theorem SqL.anyH {K : PySem.W.Frag} {a : Addr} {vs : List V} (h : SqL K (fun _ => none) a vs) (H : Hp) : SqL K H a vs := by
  rcases h with (h | ⟨o, h⟩) | h
  · cases h
  · cases h
  · exact .inr h
theorem SqL.toK {K : PySem.W.Frag} {H : Hp} {a : Addr} {vs : List V} (h : SqL K H a vs) : Rd H a (.lst vs) ∨ SqL K (fun _ => none) a vs := by
  rcases h with h | h
  · exact .inl h
  · exact .inr (.inr h)
/-- the entries of a dict with tuple keys: what of it its own object tells -/
def nφ (B : Bk) (a : Addr) (xs : List (NestedKey × Addr × Value)) : Heap → Prop := fun h =>
  ∃ o es ep, h.get? a = some o ∧ o.ExactDict ∧ o.data = .dict es ep ∧ es.toList = xs.map (entryOfKey (nestedKind B.P B.w)) ∧ (xs.map (·.1)).Nodup

/-- pairs of a dict with int and text keys -/
def keyD : Key → D
  | .inl i => .int i
  | .inr x => .str x
def KRel (K : PySem.W.Frag) (H : Hp) (G : DG) (p : Key × V) (q : D × D) : Prop := q.1 = keyD p.1 ∧ IsD K H G p.2 q.2
/-- pairs of a dict with tuple keys -/
def NRel (K : PySem.W.Frag) (H : Hp) (G : DG) (p : NestedKey × Addr × Value) (q : D × D) : Prop :=
  p.1 = q.1.norm ∧ q.1.keyable = true ∧ p.1.depth ≤ 8 ∧ (∃ ds, q.1 = .tup ds) ∧ IsD K H G (.ref p.2.1) q.1 ∧ ∃ v, RelV v p.2.2 ∧ IsD K H G v q.2
def FRel (K : PySem.W.Frag) (H : Hp) (G : DG) (p : Str × V) (q : Str × D) : Prop := p.1 = q.1 ∧ IsD K H G p.2 q.2
/-- a dict's object -/
def DictU (B : Bk) (H : Hp) (G : DG) (a : Addr) (u : HO) (kvs : List (D × D)) : Prop :=
  (∃ ks, u = .dK ks ∧ Paired (KRel B.K H G) ks kvs) ∨ (∃ xs, u = .ext (nφ B a xs) ∧ xs.length ≤ sizeLine ∧ (a == sysModules) = false ∧ Paired (NRel B.K H G) xs kvs)
def RepO (B : Bk) (H : Hp) (G : DG) (a : Addr) : DO → Prop
  | .lst ds => ∃ vs, H a = some (.lst vs) ∧ IsDs B.K H G vs ds
  | .dk kvs => ∃ ks, H a = some (.dK ks) ∧ Paired (KRel B.K H G) ks kvs
  | .dn kvs => ∃ xs, H a = some (.ext (nφ B a xs)) ∧ xs.length ≤ sizeLine ∧ (a == sysModules) = false ∧ Paired (NRel B.K H G) xs kvs
  | .lk od u kvs => H a = some (.frz od u) ∧ DictU B H G a u kvs
  | .ins C fs => ∃ dx vs, H a = some (.ins C dx vs) ∧ Paired (FRel B.K H G) vs fs
def Rep (B : Bk) (H : Hp) (G : DG) : Prop := ∀ a o, G a = some o → RepO B H G a o

/-- what is not held as changeable stays as it is -/
def Frame (H : Hp) (G : DG) (H' : Hp) (G' : DG) : Prop := ∀ a o, H a = some o → G a = none → H' a = some o ∧ G' a = none
theorem Frame.refl (H : Hp) (G : DG) : Frame H G H G := fun _ _ h g => ⟨h, g⟩
theorem Frame.trans {H H1 H2 : Hp} {G G1 G2 : DG} (a : Frame H G H1 G1) (b : Frame H1 G1 H2 G2) : Frame H G H2 G2 := fun c o h g =>
  let ⟨h1, g1⟩ := a c o h g
  b c o h1 g1

section
variable {B : Bk} {H H' : Hp} {G G' : DG}
theorem Rep.free (R : Rep B H G) {a : Addr} (h : H a = none) : G a = none := by
  cases q : G a with
  | none => rfl
  | some o =>
    have r := R a o q
    cases o with
    | lst ds => obtain ⟨_, e, _⟩ := r; rw [h] at e; cases e
    | dk ds => obtain ⟨_, e, _⟩ := r; rw [h] at e; cases e
    | dn ds => obtain ⟨_, e, _⟩ := r; rw [h] at e; cases e
    | lk od u ds => obtain ⟨e, _⟩ := r; rw [h] at e; cases e
    | ins C fs => obtain ⟨_, _, e, _⟩ := r; rw [h] at e; cases e
theorem Rep.notTup (R : Rep B H G) {a : Addr} {vs : List V} (h : Rd H a (.tup vs)) : G a = none := by
  cases q : G a with
  | none => rfl
  | some o =>
    have r := R a o q
    have key : ∀ u, H a = some u → (u = .tup vs ∨ ∃ ob, u = .frz ob (.tup vs)) := fun u e => by
      rcases h with h | ⟨ob, h⟩
      · rw [e] at h; exact .inl (Option.some.inj h)
      · rw [e] at h; exact .inr ⟨ob, Option.some.inj h⟩
    cases o with
    | lst ds => obtain ⟨_, e, _⟩ := r; rcases key _ e with z | ⟨_, z⟩ <;> cases z
    | dk ds => obtain ⟨_, e, _⟩ := r; rcases key _ e with z | ⟨_, z⟩ <;> cases z
    | dn ds => obtain ⟨_, e, _⟩ := r; rcases key _ e with z | ⟨_, z⟩ <;> cases z
    | lk od u ds =>
      obtain ⟨e, d⟩ := r
      rcases key _ e with z | ⟨_, z⟩
      · cases z
      · injection z with z1 z2
        rcases d with ⟨_, d, _⟩ | ⟨_, d, _⟩ <;> (rw [z2] at d; cases d)
    | ins C fs => obtain ⟨_, _, e, _⟩ := r; rcases key _ e with z | ⟨_, z⟩ <;> cases z
theorem SqT.fr {K : PySem.W.Frag} (R : Rep B H G) (f : Frame H G H' G') {a : Addr} {vs : List V} (h : SqT K H a vs) : SqT K H' a vs := by
  rcases h with h | h
  · have n := R.notTup h
    rcases h with h | ⟨ob, h⟩
    · exact .inl (.inl (f _ _ h n).1)
    · exact .inl (.inr ⟨ob, (f _ _ h n).1⟩)
  · exact .inr h
theorem Rd.fr (f : Frame H G H' G') {a : Addr} {u : HO} (h : Rd H a u) (n : G a = none) : Rd H' a u ∧ G' a = none := by
  rcases h with h | ⟨ob, h⟩
  · exact ⟨.inl (f _ _ h n).1, (f _ _ h n).2⟩
  · exact ⟨.inr ⟨ob, (f _ _ h n).1⟩, (f _ _ h n).2⟩
mutual
theorem IsD.fr {K : PySem.W.Frag} (R : Rep B H G) (f : Frame H G H' G') : ∀ {v : V} {d : D}, IsD K H G v d → IsD K H' G' v d
  | _, _, .non => .non
  | _, _, .bl b => .bl b
  | _, _, .int i => .int i
  | _, _, .str x => .str x
  | _, _, .ty n => .ty n
  | _, _, .ref a => .ref a
  | _, _, .tup h r => .tup (SqT.fr R f h) (IsDs.fr R f r)
  | _, _, .lst h n r => .lst (f _ _ h n).1 (f _ _ h n).2 (IsDs.fr R f r)
  | _, _, .scr h n r => .scr (Rd.fr f h n).1 (Rd.fr f h n).2 (IsDs.fr R f r)
  | _, _, .scrK h r => .scrK h (IsDs.fr R f r)
theorem IsDs.fr {K : PySem.W.Frag} (R : Rep B H G) (f : Frame H G H' G') : ∀ {vs : List V} {ds : List D}, IsDs K H G vs ds → IsDs K H' G' vs ds
  | _, _, .nil => .nil
  | _, _, .cons h r => .cons (IsD.fr R f h) (IsDs.fr R f r)
end
theorem IsDs.length {K : PySem.W.Frag} : ∀ {vs : List V} {ds : List D}, IsDs K H G vs ds → vs.length = ds.length
  | _, _, .nil => rfl
  | _, _, .cons _ r => by simp [IsDs.length r]
theorem IsDs.append {K : PySem.W.Frag} : ∀ {vs ws : List V} {ds es : List D}, IsDs K H G vs ds → IsDs K H G ws es → IsDs K H G (vs ++ ws) (ds ++ es)
  | _, _, _, _, .nil, s => s
  | _, _, _, _, .cons h r, s => .cons h (IsDs.append r s)
theorem IsDs.get {K : PySem.W.Frag} : ∀ {vs : List V} {ds : List D} {i : Nat} {d : D}, IsDs K H G vs ds → ds[i]? = some d → ∃ v, vs[i]? = some v ∧ IsD K H G v d
  | _, _, _, _, .nil, e => by simp at e
  | _, _, 0, _, .cons h _, e => by simp at e; subst e; exact ⟨_, rfl, h⟩
  | _, _, i + 1, d, .cons _ r, e => by
    obtain ⟨v, h1, h2⟩ := IsDs.get (i := i) (d := d) r (by simpa using e)
    exact ⟨v, by simpa using h1, h2⟩
theorem IsDs.getV {K : PySem.W.Frag} : ∀ {vs : List V} {ds : List D} {i : Nat} {v : V}, IsDs K H G vs ds → vs[i]? = some v → ∃ d, ds[i]? = some d ∧ IsD K H G v d
  | _, _, _, _, .nil, e => by simp at e
  | _, _, 0, _, .cons h _, e => by simp at e; subst e; exact ⟨_, rfl, h⟩
  | _, _, i + 1, d, .cons _ r, e => by
    obtain ⟨v, h1, h2⟩ := IsDs.getV (i := i) (v := d) r (by simpa using e)
    exact ⟨v, by simpa using h1, h2⟩
theorem IsDs.take {K : PySem.W.Frag} : ∀ {vs : List V} {ds : List D} (n : Nat), IsDs K H G vs ds → IsDs K H G (vs.take n) (ds.take n)
  | _, _, 0, _ => .nil
  | _, _, _ + 1, .nil => .nil
  | _, _, n + 1, .cons h r => .cons h (IsDs.take n r)
theorem IsDs.drop {K : PySem.W.Frag} : ∀ {vs : List V} {ds : List D} (n : Nat), IsDs K H G vs ds → IsDs K H G (vs.drop n) (ds.drop n)
  | _, _, 0, r => r
  | _, _, _ + 1, .nil => .nil
  | _, _, n + 1, .cons _ r => IsDs.drop n r
theorem IsDs.set {K : PySem.W.Frag} {v : V} {d : D} (h : IsD K H G v d) : ∀ {vs : List V} {ds : List D} (i : Nat), IsDs K H G vs ds → IsDs K H G (vs.set i v) (ds.set i d)
  | _, _, _, .nil => .nil
  | _, _, 0, .cons _ r => .cons h r
  | _, _, i + 1, .cons q r => .cons q (IsDs.set h i r)
theorem IsDs.reverse {K : PySem.W.Frag} {vs : List V} {ds : List D} (h : IsDs K H G vs ds) : IsDs K H G vs.reverse ds.reverse := by
  induction vs generalizing ds with
  | nil => cases h; exact .nil
  | cons v vs ih =>
    cases h with
    | cons a r =>
      rw [List.reverse_cons, List.reverse_cons]
      exact (ih r).append (.cons a .nil)
theorem IsDs.rep {K : PySem.W.Frag} {vs : List V} {ds : List D} (h : IsDs K H G vs ds) : ∀ n : Nat, IsDs K H G (List.replicate n vs).flatten (List.replicate n ds).flatten
  | 0 => .nil
  | n + 1 => by
    rw [List.replicate_succ, List.replicate_succ, List.flatten_cons, List.flatten_cons]
    exact h.append (IsDs.rep h n)
theorem paired_fr {α β : Type} {F F' : α → β → Prop} {l1 : List α} {l2 : List β} (h : Paired F l1 l2) (m : ∀ a b, F a b → F' a b) : Paired F' l1 l2 := L2.Paired.mapP h m
theorem KRel.fr {K : PySem.W.Frag} (R : Rep B H G) (f : Frame H G H' G') {p : Key × V} {q : D × D} (h : KRel K H G p q) : KRel K H' G' p q := ⟨h.1, h.2.fr R f⟩
theorem NRel.fr {K : PySem.W.Frag} (R : Rep B H G) (f : Frame H G H' G') {p : NestedKey × Addr × Value} {q : D × D} (h : NRel K H G p q) : NRel K H' G' p q := by
  obtain ⟨h1, h2, h3, h4, h5, v, h6, h7⟩ := h
  exact ⟨h1, h2, h3, h4, h5.fr R f, v, h6, h7.fr R f⟩
theorem FRel.fr {K : PySem.W.Frag} (R : Rep B H G) (f : Frame H G H' G') {p : Str × V} {q : Str × D} (h : FRel K H G p q) : FRel K H' G' p q := ⟨h.1, h.2.fr R f⟩
theorem DictU.fr (R : Rep B H G) (f : Frame H G H' G') {a : Addr} {u : HO} {kvs : List (D × D)} (h : DictU B H G a u kvs) : DictU B H' G' a u kvs := by
  rcases h with ⟨ks, e, h⟩ | ⟨xs, e, l, s, h⟩
  · exact .inl ⟨ks, e, paired_fr h fun _ _ => KRel.fr R f⟩
  · exact .inr ⟨xs, e, l, s, paired_fr h fun _ _ => NRel.fr R f⟩
/-- an object stays represented where its own place stays -/
theorem RepO.fr (R : Rep B H G) (f : Frame H G H' G') {a : Addr} {o : DO} (h : RepO B H G a o) (s : H' a = H a) : RepO B H' G' a o := by
  cases o with
  | lst ds => obtain ⟨vs, e, r⟩ := h; exact ⟨vs, s.trans e, r.fr R f⟩
  | dk ds => obtain ⟨vs, e, r⟩ := h; exact ⟨vs, s.trans e, paired_fr r fun _ _ => KRel.fr R f⟩
  | dn ds => obtain ⟨vs, e, l, m, r⟩ := h; exact ⟨vs, s.trans e, l, m, paired_fr r fun _ _ => NRel.fr R f⟩
  | lk od u ds => obtain ⟨e, d⟩ := h; exact ⟨s.trans e, d.fr R f⟩
  | ins C fs => obtain ⟨dx, vs, e, r⟩ := h; exact ⟨dx, vs, s.trans e, paired_fr r fun _ _ => FRel.fr R f⟩
/-- a place laid anew (untracked so far), or changed (held) -/
theorem Frame.put {a : Addr} {u : HO} {o : DO} (n : H a = none ∨ G a ≠ none) : Frame H G (upd H a u) (up G a o) := fun b ob h g => by
  have ne : b ≠ a := by
    rintro rfl
    rcases n with n | n
    · rw [h] at n; cases n
    · exact n g
  exact ⟨by rw [upd_ne ne]; exact h, by rw [up_ne ne]; exact g⟩
/-- a new untracked thing (a tuple, a finished list, an own dict) -/
theorem Frame.new {a : Addr} {u : HO} (n : H a = none) : Frame H G (upd H a u) G := fun b ob h g => by
  have ne : b ≠ a := by rintro rfl; rw [h] at n; cases n
  exact ⟨by rw [upd_ne ne]; exact h, g⟩
theorem Rep.put {a : Addr} {u : HO} {o : DO} (R : Rep B H G) (n : H a = none ∨ G a ≠ none) (h : RepO B (upd H a u) (up G a o) a o) : Rep B (upd H a u) (up G a o) := fun b ob e => by
  by_cases ne : b = a
  · subst ne; rw [up_same] at e; cases e; exact h
  · rw [up_ne ne] at e
    exact (R b ob e).fr R (Frame.put n) (upd_ne ne)
theorem Rep.new {a : Addr} {u : HO} (R : Rep B H G) (n : H a = none) : Rep B (upd H a u) G := fun b ob e => by
  have ne : b ≠ a := by
    rintro rfl
    rw [R.free n] at e; cases e
  exact (R b ob e).fr R (Frame.new n) (upd_ne ne)
/-- less is held -/
theorem Frame.less (h : ∀ a, G a = none → G' a = none) : Frame H G H G' := fun _ _ e g => ⟨e, h _ g⟩
theorem Rep.less (R : Rep B H G) (h : ∀ a o, G' a = some o → G a = some o) : Rep B H G' := fun a o e => by
  have f : Frame H G H G' := Frame.less fun b n => by
    cases q : G' b with
    | none => rfl
    | some u => rw [h b u q] at n; cases n
  exact (R a o (h a o e)).fr R f rfl
end

/-! ### slots -/
abbrev DSt := List (Option D)
def RelS (K : PySem.W.Frag) (H : Hp) (G : DG) (σ : St) (τ : DSt) : Prop := σ.length = τ.length ∧ ∀ (i : Nat) (d : D), τ[i]? = some (some d) → ∃ v, σ[i]? = some (some v) ∧ IsD K H G v d
section
variable {B : Bk} {K : PySem.W.Frag} {H H' : Hp} {G G' : DG} {σ : St} {τ : DSt}
theorem RelS.fr (R : Rep B H G) (f : Frame H G H' G') (r : RelS K H G σ τ) : RelS K H' G' σ τ := ⟨r.1, fun i d e => let ⟨v, h, q⟩ := r.2 i d e; ⟨v, h, q.fr R f⟩⟩
theorem RelS.set {v : V} {d : D} (r : RelS K H G σ τ) (h : IsD K H G v d) (i : Nat) : RelS K H G (σ.set i (some v)) (τ.set i (some d)) := by
  refine ⟨by simpa using r.1, fun j e q => ?_⟩
  by_cases hj : i = j
  · subst hj
    have hi : i < τ.length := by
      have := (List.getElem?_eq_some_iff.mp q).1
      simpa using this
    rw [List.getElem?_set_self hi] at q
    cases q
    exact ⟨v, List.getElem?_set_self (by rw [r.1]; exact hi), h⟩
  · rw [List.getElem?_set_ne hj] at q
    obtain ⟨u, h1, h2⟩ := r.2 j e q
    exact ⟨u, by rw [List.getElem?_set_ne hj]; exact h1, h2⟩
def wipeD (τ : DSt) : List Nat → DSt
  | [] => τ
  | v :: vs => (wipeD τ vs).set v none
theorem RelS.wipe (r : RelS K H G σ τ) : ∀ vs : List Nat, RelS K H G (wipe σ vs) (wipeD τ vs)
  | [] => r
  | v :: vs => by
    have ih := RelS.wipe r vs
    refine ⟨by show (List.set _ _ _).length = (List.set _ _ _).length; rw [List.length_set, List.length_set]; exact ih.1, fun j e q => ?_⟩
    have q : (List.set (wipeD τ vs) v none)[j]? = some (some e) := q
    by_cases hj : v = j
    · subst hj
      rw [List.getElem?_set] at q
      split at q
      · split at q <;> cases q
      · rename_i h; exact absurd rfl h
    · rw [List.getElem?_set_ne hj] at q
      obtain ⟨u, h1, h2⟩ := ih.2 j e q
      exact ⟨u, by show (List.set _ _ _)[j]? = _; rw [List.getElem?_set_ne hj]; exact h1, h2⟩
theorem RelS.start {N : List Str} {vs : List V} {ds : List D} (h : IsDs K H G vs ds) : RelS K H G (start N vs) (ds.map some ++ List.replicate (N.length - ds.length) none) := by
  have hl := h.length
  refine ⟨by unfold L2.start; simp [hl], fun i d e => ?_⟩
  by_cases hi : i < ds.length
  · rw [List.getElem?_append_left (by simpa using hi), List.getElem?_map] at e
    cases q : ds[i]? with
    | none => rw [q] at e; cases e
    | some d' =>
      rw [q] at e
      cases e
      obtain ⟨v, hv, r⟩ := h.get q
      exact ⟨v, by unfold L2.start; rw [List.getElem?_append_left (by simpa [hl] using hi), List.getElem?_map, hv]; rfl, r⟩
  · rw [List.getElem?_append_right (by simpa using hi), List.getElem?_replicate] at e
    split at e <;> cases e
end

/-! ### readings over data -/
abbrev DQ := D → DG → Prop
abbrev RE := DSt → DG → DQ → Prop
abbrev RT := DSt → DG → (Bool → DG → Prop) → Prop
abbrev RA := DSt → DG → (List D → DG → Prop) → Prop
structure DEnds where
  nx : DSt → DG → Prop
  rt : DQ
  bk : DSt → DG → Prop := fun _ _ => False
  ct : DSt → DG → Prop := fun _ _ => False
abbrev RS := DEnds → DSt → DG → Prop

/-- the places ahead of a step -/
structure At (B : Bk) (σ : St) (H : Hp) (τ : DSt) (G : DG) : Prop where
  s : RelS B.K H G σ τ
  r : Rep B H G
/-- .. and behind it -/
structure Go (B : Bk) (H : Hp) (G : DG) (H' : Hp) (G' : DG) : Prop where
  f : Frame H G H' G'
  r : Rep B H' G'
theorem Go.refl {B : Bk} {H : Hp} {G : DG} (R : Rep B H G) : Go B H G H G := ⟨.refl _ _, R⟩
theorem Go.trans {B : Bk} {H H1 H2 : Hp} {G G1 G2 : DG} (a : Go B H G H1 G1) (b : Go B H1 G1 H2 G2) : Go B H G H2 G2 := ⟨a.f.trans b.f, b.r⟩
theorem At.go {B : Bk} {σ : St} {H H' : Hp} {τ : DSt} {G G' : DG} (a : At B σ H τ G) (g : Go B H G H' G') : At B σ H' τ G' := ⟨a.s.fr a.r g.f, g.r⟩

def liftE (B : Bk) (t : RE) : TE := fun σ H Q => ∃ τ G Qd, At B σ H τ G ∧ t τ G Qd ∧ ∀ v H' d G', Go B H G H' G' → IsD B.K H' G' v d → Qd d G' → Q v H'
def liftT (B : Bk) (t : RT) : TT := fun σ H Q => ∃ τ G Qd, At B σ H τ G ∧ t τ G Qd ∧ ∀ b H' G', Go B H G H' G' → Qd b G' → Q b H'
def liftA (B : Bk) (n : Nat) (t : RA) : TA := fun σ H Q => ∃ τ G Qd, At B σ H τ G ∧ t τ G Qd ∧ ∀ vs H' ds G', Go B H G H' G' → IsDs B.K H' G' vs ds → vs.length = n → Qd ds G' → Q vs H'
structure EndsOk (B : Bk) (H : Hp) (G : DG) (D : Ends) (Dd : DEnds) : Prop where
  nx : ∀ σ' H' τ' G', Go B H G H' G' → RelS B.K H' G' σ' τ' → Dd.nx τ' G' → D.nx σ' H'
  rt : ∀ v H' d G', Go B H G H' G' → IsD B.K H' G' v d → Dd.rt d G' → D.rt v H'
  bk : ∀ σ' H' τ' G', Go B H G H' G' → RelS B.K H' G' σ' τ' → Dd.bk τ' G' → D.bk σ' H'
  ct : ∀ σ' H' τ' G', Go B H G H' G' → RelS B.K H' G' σ' τ' → Dd.ct τ' G' → D.ct σ' H'
theorem EndsOk.go {B : Bk} {H H1 : Hp} {G G1 : DG} {D : Ends} {Dd : DEnds} (e : EndsOk B H G D Dd) (g : Go B H G H1 G1) : EndsOk B H1 G1 D Dd :=
  ⟨fun _ _ _ _ q => e.nx _ _ _ _ (g.trans q), fun _ _ _ _ q => e.rt _ _ _ _ (g.trans q), fun _ _ _ _ q => e.bk _ _ _ _ (g.trans q), fun _ _ _ _ q => e.ct _ _ _ _ (g.trans q)⟩
def liftS (B : Bk) (t : RS) : TS := fun D σ H => ∃ τ G Dd, At B σ H τ G ∧ t Dd τ G ∧ EndsOk B H G D Dd

def DE (X : Cx) (e : Expr) (t : RE) : Prop := PE X e (liftE (bkx X) t)
def DT (X : Cx) (e : Expr) (t : RT) : Prop := PT X e (liftT (bkx X) t)
def DW (X : Cx) (e : Expr) (t : RT) : Prop := PW X e (liftT (bkx X) t)
def DA (X : Cx) (es : List Expr) (t : RA) : Prop := PA X es (liftA (bkx X) es.length t)
def DS (X : Cx) (st : Stmt) (t : RS) : Prop := PS X st (liftS (bkx X) t)
def DSs (X : Cx) (st : List Stmt) (t : RS) : Prop := PSs X st (liftS (bkx X) t)

section
variable {X : Cx}
theorem PE.weak {e : Expr} {t t' : TE} (h : PE X e t) (w : ∀ σ H Q, t' σ H Q → t σ H Q) : PE X e t' := ⟨fun pins s σ H Q I q => h.run pins s σ H Q I (w _ _ _ q)⟩
theorem PT.weak {e : Expr} {t t' : TT} (h : PT X e t) (w : ∀ σ H Q, t' σ H Q → t σ H Q) : PT X e t' := ⟨fun pins s σ H Q I q => h.run pins s σ H Q I (w _ _ _ q)⟩
theorem PW.weak {e : Expr} {t t' : TT} (h : PW X e t) (w : ∀ σ H Q, t' σ H Q → t σ H Q) : PW X e t' := ⟨fun wh pins s σ H Q I q => h.run wh pins s σ H Q I (w _ _ _ q)⟩
theorem PA.weak {e : List Expr} {t t' : TA} (h : PA X e t) (w : ∀ σ H Q, t' σ H Q → t σ H Q) : PA X e t' := ⟨fun pos pins s σ H Q I q => h.run pos pins s σ H Q I (w _ _ _ q)⟩
theorem PS.weak {e : Stmt} {t t' : TS} (h : PS X e t) (w : ∀ D σ H, t' D σ H → t D σ H) : PS X e t' := ⟨fun pins s σ H D I q => h.run pins s σ H D I (w _ _ _ q)⟩
theorem PSs.weak {e : List Stmt} {t t' : TS} (h : PSs X e t) (w : ∀ D σ H, t' D σ H → t D σ H) : PSs X e t' := ⟨fun pins s σ H D I q => h.run pins s σ H D I (w _ _ _ q)⟩
end
/-- to hand on: a lifted reading is asked -/
theorem liftE_of {B : Bk} {t : RE} {σ : St} {H : Hp} {τ : DSt} {G : DG} {Q : VK} {Qd : DQ} (a : At B σ H τ G) (h : t τ G Qd) (k : ∀ v H' d G', Go B H G H' G' → IsD B.K H' G' v d → Qd d G' → Q v H') : liftE B t σ H Q := ⟨τ, G, Qd, a, h, k⟩
theorem liftT_of {B : Bk} {t : RT} {σ : St} {H : Hp} {τ : DSt} {G : DG} {Q : Bool → Hp → Prop} {Qd : Bool → DG → Prop} (a : At B σ H τ G) (h : t τ G Qd) (k : ∀ b H' G', Go B H G H' G' → Qd b G' → Q b H') : liftT B t σ H Q := ⟨τ, G, Qd, a, h, k⟩
theorem liftA_of {B : Bk} {n : Nat} {t : RA} {σ : St} {H : Hp} {τ : DSt} {G : DG} {Q : List V → Hp → Prop} {Qd : List D → DG → Prop} (a : At B σ H τ G) (h : t τ G Qd) (k : ∀ vs H' ds G', Go B H G H' G' → IsDs B.K H' G' vs ds → vs.length = n → Qd ds G' → Q vs H') : liftA B n t σ H Q := ⟨τ, G, Qd, a, h, k⟩
theorem liftS_of {B : Bk} {t : RS} {σ : St} {H : Hp} {τ : DSt} {G : DG} {D : Ends} {Dd : DEnds} (a : At B σ H τ G) (h : t Dd τ G) (k : EndsOk B H G D Dd) : liftS B t D σ H := ⟨τ, G, Dd, a, h, k⟩
end QF
/-! QB: the rules over data: expressions, tests, statements. -/
namespace QF
open PySem L2
section
variable {X : Cx}

/-! ### names, constants -/
def dVar (i : Nat) : RE := fun τ G Q => ∃ d, τ[i]? = some (some d) ∧ Q d G
def dC (d : D) : RE := fun _ G Q => Q d G
theorem de_var {i : Nat} {e : Expr} (h : PE X e (tVar i)) : DE X e (dVar i) := PE.weak h fun σ H Q ⟨τ, G, Qd, a, ⟨d, e, q⟩, k⟩ =>
  let ⟨v, hv, hd⟩ := a.s.2 i d e
  ⟨v, hv, k v H d G (.refl a.r) hd q⟩
theorem dv (i : Nat) {x : Str} {pos : Pos} (hN : X.N[i]? = some x := by rfl) (hv : Vis X.env.scope x := by first | exact Or.inl rfl | exact Or.inr (Or.inl rfl) | exact Or.inr (Or.inr rfl)) (hd : (x == ("__debug__" : Str)) = false := by decide)
    (hcd : (x == ("__classdict__" : Str)) = false := by decide) : DE X (.Name x pos) (dVar i) := de_var (pe_var hN hv hd hcd)
theorem de_const {e : Expr} {v : V} {d : D} (h : PE X e (tC v)) (r : ∀ H G, IsD X.K H G v d) : DE X e (dC d) := PE.weak h fun σ H Q ⟨τ, G, Qd, a, q, k⟩ => k v H d G (.refl a.r) (r H G) q
theorem de_int {i j pos} : DE X (.Constant (.int i) j pos) (dC (.int i)) := de_const pe_int fun _ _ => .int _
theorem de_bl {b j pos} : DE X (.Constant (.bool b) j pos) (dC (.bl b)) := de_const pe_bl fun _ _ => .bl _
theorem de_non {j pos} : DE X (.Constant .none j pos) (dC .non) := de_const pe_non fun _ _ => .non
theorem de_str {x j pos} : DE X (.Constant (.str x) j pos) (dC (.str x)) := de_const pe_str fun _ _ => .str _
/-- a module's constant -/
theorem de_glob {x : Str} {v : V} {d : D} {u : Value} {pos : Pos} (hg : Gl X x) (hm : X.mg x = some u) (r : RelV v u) (k : ∀ H G, IsD X.K H G v d) (hd : (x == ("__debug__" : Str)) = false := by decide) : DE X (.Name x pos) (dC d) :=
  de_const (pe_glob hg hm r hd) k
theorem de_bltn {x : Str} {v : V} {d : D} {u : Value} {pos : Pos} (hg : Gl X x) (hm : X.mg x = none) (hv : bootBuiltins x = some u) (r : RelV v u) (k : ∀ H G, IsD X.K H G v d) (hn : x ≠ "__name__" := by decide) (hd : (x == ("__debug__" : Str)) = false := by decide) : DE X (.Name x pos) (dC d) :=
  de_const (pe_bltn hg hm hv r hn hd) k

/-! ### argument lists, displays -/
def daNil : RA := fun _ G Q => Q [] G
def daCons (t : RE) (r : RA) : RA := fun τ G Q => t τ G fun d G1 => r τ G1 fun ds G2 => Q (d :: ds) G2
theorem da_nil : DA X [] daNil := PA.weak pa_nil fun σ H Q ⟨τ, G, Qd, a, q, k⟩ => k [] H [] G (.refl a.r) .nil rfl q
theorem da_cons {e : Expr} {es : List Expr} {t : RE} {r : RA} (ha : DE X e t) (hr : DA X es r) (hs : starEach (e :: es) X.env = (false, eval e X.env) :: starEach es X.env := by rfl) : DA X (e :: es) (daCons t r) :=
  PA.weak (pa_cons ha hr hs) fun σ H Q ⟨τ, G, Qd, a, q, k⟩ =>
    liftE_of a q fun v H1 d G1 g1 i1 q1 => liftA_of (a.go g1) q1 fun vs H2 ds G2 g2 i2 l q2 => k (v :: vs) H2 (d :: ds) G2 (g1.trans g2) (.cons (i1.fr g1.r g2.f) i2) (by rw [List.length_cons, List.length_cons, l]) q2
def dTup (t : RA) : RE := fun τ G Q => t τ G fun ds G1 => Q (.tup ds) G1
/-- a list that is finished -/
def dLst (t : RA) : RE := fun τ G Q => t τ G fun ds G1 => Q (.lst ds) G1
/-- a list that will be changed -/
def dLstM (t : RA) : RE := fun τ G Q => t τ G fun ds G1 => ∀ l, G1 l = none → Q (.ref l) (up G1 l (.lst ds))
theorem de_tup {es : List Expr} {t : RA} {x1 pos} (h : DA X es t) (hl : es.length ≤ sizeLine := by decide) : DE X (.Tuple es x1 pos) (dTup t) :=
  PE.weak (pe_tup h) fun σ H Q ⟨τ, G, Qd, a, q, k⟩ => liftA_of a q fun vs H1 ds G1 g1 i1 l q1 => ⟨by rw [l]; exact hl, fun p hp => by
    have gn : Go (bkx X) H1 G1 (upd H1 p (.tup vs)) G1 := ⟨Frame.new hp, g1.r.new hp⟩
    exact k _ _ _ _ (g1.trans gn) (.tup (.inl (.inl upd_same)) (i1.fr g1.r gn.f)) q1⟩
theorem de_lst {es : List Expr} {t : RA} {pos} (h : DA X es t) (hl : es.length ≤ sizeLine := by decide) : DE X (.List es pos) (dLst t) :=
  PE.weak (pe_lst h) fun σ H Q ⟨τ, G, Qd, a, q, k⟩ => liftA_of a q fun vs H1 ds G1 g1 i1 l q1 => ⟨by rw [l]; exact hl, fun p hp => by
    have gn : Go (bkx X) H1 G1 (upd H1 p (.lst vs)) G1 := ⟨Frame.new hp, g1.r.new hp⟩
    exact k _ _ _ _ (g1.trans gn) (.lst upd_same (g1.r.free hp) (i1.fr g1.r gn.f)) q1⟩
theorem de_lstM {es : List Expr} {t : RA} {pos} (h : DA X es t) (hl : es.length ≤ sizeLine := by decide) : DE X (.List es pos) (dLstM t) :=
  PE.weak (pe_lst h) fun σ H Q ⟨τ, G, Qd, a, q, k⟩ => liftA_of a q fun vs H1 ds G1 g1 i1 l q1 => ⟨by rw [l]; exact hl, fun p hp => by
    have f : Frame H1 G1 (upd H1 p (.lst vs)) (up G1 p (.lst ds)) := Frame.put (.inl hp)
    have gn : Go (bkx X) H1 G1 (upd H1 p (.lst vs)) (up G1 p (.lst ds)) := ⟨f, g1.r.put (.inl hp) ⟨vs, upd_same, i1.fr g1.r f⟩⟩
    exact k _ _ _ _ (g1.trans gn) (.ref p) (q1 p (g1.r.free hp))⟩

/-! ### operations on values -/
abbrev DR2 := D → D → DG → DQ → Prop
abbrev DR1 := D → DG → DQ → Prop
abbrev DRN := List D → DG → DQ → Prop
/-- how a rule on values answers one on data -/
def Ans2 (B : Bk) (r0 : R2) (r : DR2) : Prop := ∀ (H : Hp) (G : DG) (v u : V) (x y : D) (Qd : DQ) (Q : VK), Rep B H G → IsD B.K H G v x → IsD B.K H G u y → r x y G Qd →
  (∀ v' H' d G', Go B H G H' G' → IsD B.K H' G' v' d → Qd d G' → Q v' H') → r0 v u H Q
structure DOp (X : Cx) (f : Value → Value → Sem Value) (r : DR2) : Prop where
  ex : ∃ r0, OpR X f r0 ∧ Ans2 (bkx X) r0 r
theorem DOp.or {f : Value → Value → Sem Value} {r r' : DR2} (h : DOp X f r) (h' : DOp X f r') : DOp X f (fun x y G Q => r x y G Q ∨ r' x y G Q) := by
  obtain ⟨r0, o, a⟩ := h
  obtain ⟨r0', o', a'⟩ := h'
  refine ⟨_, OpR.or o o', fun H G v u x y Qd Q R i j q k => ?_⟩
  rcases q with q | q
  · exact .inl (a H G v u x y Qd Q R i j q k)
  · exact .inr (a' H G v u x y Qd Q R i j q k)
def dOp (r : DR2) (ta tb : RE) : RE := fun τ G Q => ta τ G fun x G1 => tb τ G1 fun y G2 => r x y G2 Q
theorem lift_op {B : Bk} {r0 : R2} {r : DR2} (an : Ans2 B r0 r) {ta tb : RE} (σ : St) (H : Hp) (Q : VK) (h : liftE B (dOp r ta tb) σ H Q) : tOp r0 (liftE B ta) (liftE B tb) σ H Q := by
  obtain ⟨τ, G, Qd, a, q, k⟩ := h
  exact liftE_of a q fun v H1 d G1 g1 i1 q1 => liftE_of (a.go g1) q1 fun u H2 e G2 g2 i2 q2 => an H2 G2 v u d e Qd Q g2.r (i1.fr g1.r g2.f) i2 q2 fun v' H' d' G' g => k v' H' d' G' ((g1.trans g2).trans g)
theorem de_op {op : Operator} {a b : Expr} {pos : Pos} {r : DR2} {ta tb : RE} (ho : DOp X (binaryOp op) r) (ha : DE X a ta) (hb : DE X b tb) : DE X (.BinOp a op b pos) (dOp r ta tb) := by
  obtain ⟨r0, o, an⟩ := ho
  exact PE.weak (pe_op o ha hb) (lift_op an)
theorem de_cmp {op : CmpOp} {a b : Expr} {pos : Pos} {r : DR2} {ta tb : RE} (ho : DOp X (compareOp op) r) (ha : DE X a ta) (hb : DE X b tb) (hm : behindInMarks op b = false := by first | exact nomark _ | rfl) : DE X (.Compare a [op] [b] pos) (dOp r ta tb) := by
  obtain ⟨r0, o, an⟩ := ho
  exact PE.weak (pe_cmpR o ha hb hm) (lift_op an)
/-- a comparison as a test -/
def dTest (t : RE) : RT := fun τ G Q => t τ G fun d G1 => ∃ k, d = .bl k ∧ Q k G1
theorem lift_test {B : Bk} {t0 : TE} {t : RE} (h : ∀ σ H Q, liftE B t σ H Q → t0 σ H Q) (σ : St) (H : Hp) (Q : Bool → Hp → Prop) (q : liftT B (dTest t) σ H Q) : tTest t0 σ H Q := by
  obtain ⟨τ, G, Qd, a, q, k⟩ := q
  refine h _ _ _ (liftE_of a q fun v H1 d G1 g1 i1 q1 => ?_)
  obtain ⟨c, rfl, q1⟩ := q1
  cases i1
  exact ⟨c, rfl, k c H1 G1 g1 q1⟩
theorem dt_cmp {op : CmpOp} {a b : Expr} {pos : Pos} {r : DR2} {ta tb : RE} (ho : DOp X (compareOp op) r) (ha : DE X a ta) (hb : DE X b tb) (hm : behindInMarks op b = false := by first | exact nomark _ | rfl) : DT X (.Compare a [op] [b] pos) (dTest (dOp r ta tb)) := by
  obtain ⟨r0, o, an⟩ := ho
  exact PT.weak (pt_cmpR o ha hb hm) (lift_test (lift_op an))
/-- a <= b < c -/
def dChain (r r' : DR2) (ta tb tc : RE) : RE := fun τ G Q => ta τ G fun x G1 => tb τ G1 fun y G2 => r x y G2 fun z G3 => ∃ k, z = .bl k ∧
  (if k = true then tc τ G3 fun w G4 => r' y w G4 Q else Q (.bl false) G3)
theorem lift_chain {B : Bk} {r0 r0' : R2} {r r' : DR2} (an : Ans2 B r0 r) (an' : Ans2 B r0' r') {ta tb tc : RE} (σ : St) (H : Hp) (Q : VK) (h : liftE B (dChain r r' ta tb tc) σ H Q) : tChain r0 r0' (liftE B ta) (liftE B tb) (liftE B tc) σ H Q := by
  obtain ⟨τ, G, Qd, a, q, k⟩ := h
  refine liftE_of a q fun v H1 d G1 g1 i1 q1 => liftE_of (a.go g1) q1 fun u H2 e G2 g2 i2 q2 => an H2 G2 v u d e _ _ g2.r (i1.fr g1.r g2.f) i2 q2 fun z H3 z' G3 g3 i3 q3 => ?_
  obtain ⟨c, rfl, q3⟩ := q3
  cases i3
  refine ⟨c, rfl, ?_⟩
  cases c with
  | false => exact iteF (k _ _ _ _ ((g1.trans g2).trans g3) (.bl _) (by simpa using q3))
  | true =>
    have q3 : tc τ G3 fun w G4 => r' e w G4 Qd := by simpa using q3
    refine iteT (liftE_of (((a.go g1).go g2).go g3) q3 fun w H4 f G4 g4 i4 q4 => an' H4 G4 u w e f Qd Q g4.r ((i2.fr g2.r g3.f).fr g3.r g4.f) i4 q4 fun v' H' d' G' g => k v' H' d' G' ((((g1.trans g2).trans g3).trans g4).trans g))
theorem de_chain {op op' : CmpOp} {a b c : Expr} {pos : Pos} {r r' : DR2} {ta tb tc : RE} (ho : DOp X (compareOp op) r) (ho' : DOp X (compareOp op') r') (ha : DE X a ta) (hb : DE X b tb) (hc : DE X c tc)
    (hm : lastMarks [op, op'] [b, c] = false := by with_unfolding_all rfl) : DE X (.Compare a [op, op'] [b, c] pos) (dChain r r' ta tb tc) := by
  obtain ⟨r0, o, an⟩ := ho
  obtain ⟨r0', o', an'⟩ := ho'
  exact PE.weak (pe_chain o o' ha hb hc hm) (lift_chain an an')
theorem dt_chain {op op' : CmpOp} {a b c : Expr} {pos : Pos} {r r' : DR2} {ta tb tc : RE} (ho : DOp X (compareOp op) r) (ho' : DOp X (compareOp op') r') (ha : DE X a ta) (hb : DE X b tb) (hc : DE X c tc)
    (hm : lastMarks [op, op'] [b, c] = false := by with_unfolding_all rfl) : DT X (.Compare a [op, op'] [b, c] pos) (dTest (dChain r r' ta tb tc)) := by
  obtain ⟨r0, o, an⟩ := ho
  obtain ⟨r0', o', an'⟩ := ho'
  exact PT.weak (pt_chain o o' ha hb hc hm) (lift_test (lift_chain an an'))

/-! #### ints -/
def iI (C : Int → Int → Prop) (g : Int → Int → D) : DR2 := fun x y G Q => ∃ i j, x = .int i ∧ y = .int j ∧ C i j ∧ Q (g i j) G
def iI0 (g : Int → Int → D) : DR2 := fun x y G Q => ∃ i j, x = .int i ∧ y = .int j ∧ Q (g i j) G
theorem dop_I {f : Value → Value → Sem Value} {C : Int → Int → Prop} {g : Int → Int → V} {g' : Int → Int → D} (o : OpR X f (rI C g)) (e : ∀ i j H G, IsD X.K H G (g i j) (g' i j)) : DOp X f (iI C g') :=
  ⟨_, o, fun H G v u x y Qd Q R i j ⟨a, b, ex, ey, c, q⟩ k => by
    subst ex; subst ey
    cases i; cases j
    exact ⟨a, b, rfl, rfl, c, k _ _ _ _ (.refl R) (e _ _ _ _) q⟩⟩
theorem dop_I0 {f : Value → Value → Sem Value} {g : Int → Int → V} {g' : Int → Int → D} (o : OpR X f (rI0 g)) (e : ∀ i j H G, IsD X.K H G (g i j) (g' i j)) : DOp X f (iI0 g') :=
  ⟨_, o, fun H G v u x y Qd Q R i j ⟨a, b, ex, ey, q⟩ k => by
    subst ex; subst ey
    cases i; cases j
    exact ⟨a, b, rfl, rfl, k _ _ _ _ (.refl R) (e _ _ _ _) q⟩⟩
theorem dadd : DOp X (binaryOp .Add) (iI0 fun i j => .int (i + j)) := dop_I0 op_add fun _ _ _ _ => .int _
theorem dsub : DOp X (binaryOp .Sub) (iI0 fun i j => .int (i - j)) := dop_I0 op_sub fun _ _ _ _ => .int _
theorem dmul : DOp X (binaryOp .Mult) (iI CMul fun i j => .int (i * j)) := dop_I op_mul fun _ _ _ _ => .int _
theorem dfdiv : DOp X (binaryOp .FloorDiv) (iI CDiv fun i j => .int (i / j)) := dop_I op_fdiv fun _ _ _ _ => .int _
theorem dmod : DOp X (binaryOp .Mod) (iI (fun _ j => 0 < j) fun i j => .int (i % j)) := dop_I op_mod fun _ _ _ _ => .int _
theorem dpow : DOp X (binaryOp .Pow) (iI CPow fun i j => .int (i ^ j.toNat)) := dop_I op_pow fun _ _ _ _ => .int _
theorem dshl : DOp X (binaryOp .LShift) (iI CPow fun i j => .int (i * 2 ^ j.toNat)) := dop_I op_shl fun _ _ _ _ => .int _
theorem dshr : DOp X (binaryOp .RShift) (iI (fun _ j => 0 ≤ j) fun i j => .int (i / 2 ^ j.toNat)) := dop_I op_shr fun _ _ _ _ => .int _
theorem dband : DOp X (binaryOp .BitAnd) (iI0 fun i j => .int (Builtin.bitAnd i j)) := dop_I0 op_and fun _ _ _ _ => .int _
theorem dlt : DOp X (compareOp .Lt) (iI0 fun i j => .bl (decide (i < j))) := dop_I0 op_lt fun _ _ _ _ => .bl _
theorem dle : DOp X (compareOp .LtE) (iI0 fun i j => .bl (decide (i ≤ j))) := dop_I0 op_le fun _ _ _ _ => .bl _
theorem dgt : DOp X (compareOp .Gt) (iI0 fun i j => .bl (decide (j < i))) := dop_I0 op_gt fun _ _ _ _ => .bl _
theorem dge : DOp X (compareOp .GtE) (iI0 fun i j => .bl (decide (j ≤ i))) := dop_I0 op_ge fun _ _ _ _ => .bl _
def dUn (r : DR1) (ta : RE) : RE := fun τ G Q => ta τ G fun x G1 => r x G1 Q
def iU (g : Int → D) : DR1 := fun x G Q => ∃ i, x = .int i ∧ Q (g i) G
theorem de_neg {a : Expr} {pos : Pos} {ta : RE} (ha : DE X a ta) : DE X (.UnaryOp .USub a pos) (dUn (iU fun i => .int (-i)) ta) :=
  PE.weak (pe_un un_neg ha) fun σ H Q ⟨τ, G, Qd, a, q, k⟩ => liftE_of a q fun v H1 d G1 g1 i1 ⟨i, e, q1⟩ => by
    subst e
    cases i1
    exact ⟨i, rfl, k _ _ _ _ g1 (.int _) q1⟩

/-! #### views: a list that is finished, or one that stands in the map -/
def vL (G : DG) : D → Option (List D)
  | .lst ds => some ds
  | .ref a => match G a with
    | some (.lst ds) => some ds
    | _ => none
  | _ => none
/-- .. or the script -/
def vS (G : DG) : D → Option (List D)
  | .scr ds => some ds
  | x => vL G x
theorem vL_lst {G : DG} {ds : List D} : vL G (.lst ds) = some ds := rfl
theorem vL_ref {G : DG} {a : Addr} {ds : List D} (h : G a = some (.lst ds)) : vL G (.ref a) = some ds := by simp only [vL, h]
theorem vL_at {B : Bk} {H : Hp} {G : DG} {v : V} {x : D} {ds : List D} (R : Rep B H G) (i : IsD B.K H G v x) (h : vL G x = some ds) : ∃ a vs, v = .ref a ∧ H a = some (.lst vs) ∧ IsDs B.K H G vs ds := by
  cases i with
  | lst h1 h2 h3 => cases h; exact ⟨_, _, rfl, h1, h3⟩
  | ref a =>
    unfold vL at h
    cases e : G a with
    | none => simp only [e] at h; cases h
    | some o =>
      cases o with
      | lst es =>
        simp only [e] at h
        cases h
        obtain ⟨vs, h1, h2⟩ := R a _ e
        exact ⟨a, vs, rfl, h1, h2⟩
      | _ => simp only [e] at h; cases h
  | _ => cases h
theorem vS_at {B : Bk} {H : Hp} {G : DG} {v : V} {x : D} {ds : List D} (R : Rep B H G) (i : IsD B.K H G v x) (h : vS G x = some ds) : ∃ a vs, v = .ref a ∧ SqL B.K H a vs ∧ IsDs B.K H G vs ds := by
  have key : vL G x = some ds → ∃ a vs, v = .ref a ∧ SqL B.K H a vs ∧ IsDs B.K H G vs ds := fun q => by
    obtain ⟨a, vs, e, h1, h2⟩ := vL_at R i q
    exact ⟨a, vs, e, SqL.of h1, h2⟩
  cases x with
  | scr es =>
    cases h
    cases i with
    | scr h1 h2 h3 => exact ⟨_, _, rfl, .inl h1, h3⟩
    | scrK h1 h3 => exact ⟨_, _, rfl, SqL.anyH h1 H, h3⟩
  | _ => exact key h
theorem tup_at {K : PySem.W.Frag} {H : Hp} {G : DG} {v : V} {ds : List D} (i : IsD K H G v (.tup ds)) : ∃ a vs, v = .ref a ∧ SqT K H a vs ∧ IsDs K H G vs ds := by
  cases i with
  | tup h r => exact ⟨_, _, rfl, h, r⟩
theorem lst_at {K : PySem.W.Frag} {H : Hp} {G : DG} {v : V} {ds : List D} (i : IsD K H G v (.lst ds)) : ∃ a vs, v = .ref a ∧ H a = some (.lst vs) ∧ IsDs K H G vs ds := by
  cases i with
  | lst h n r => exact ⟨_, _, rfl, h, r⟩
/-- a new list, finished at once -/
theorem new_lst {B : Bk} {H : Hp} {G : DG} {p : Addr} {vs : List V} {ds : List D} (R : Rep B H G) (hp : H p = none) (r : IsDs B.K H G vs ds) : Go B H G (upd H p (.lst vs)) G ∧ IsD B.K (upd H p (.lst vs)) G (.ref p) (.lst ds) :=
  ⟨⟨Frame.new hp, R.new hp⟩, .lst upd_same (R.free hp) (r.fr R (Frame.new hp))⟩
theorem new_lstM {B : Bk} {H : Hp} {G : DG} {p : Addr} {vs : List V} {ds : List D} (R : Rep B H G) (hp : H p = none) (r : IsDs B.K H G vs ds) : Go B H G (upd H p (.lst vs)) (up G p (.lst ds)) :=
  ⟨Frame.put (.inl hp), R.put (.inl hp) ⟨vs, upd_same, r.fr R (Frame.put (.inl hp))⟩⟩
theorem new_tup {B : Bk} {H : Hp} {G : DG} {p : Addr} {vs : List V} {ds : List D} (R : Rep B H G) (hp : H p = none) (r : IsDs B.K H G vs ds) : Go B H G (upd H p (.tup vs)) G ∧ IsD B.K (upd H p (.tup vs)) G (.ref p) (.tup ds) :=
  ⟨⟨Frame.new hp, R.new hp⟩, .tup (.inl (.inl upd_same)) (r.fr R (Frame.new hp))⟩
/-- a held list changed -/
theorem set_lst {B : Bk} {H : Hp} {G : DG} {p : Addr} {ws : List V} {ds es : List D} (R : Rep B H G) (hG : G p = some (.lst ds)) (r : IsDs B.K H G ws es) : Go B H G (upd H p (.lst ws)) (up G p (.lst es)) :=
  have n : H p = none ∨ G p ≠ none := .inr (by rw [hG]; exact fun z => nomatch z)
  ⟨Frame.put n, R.put n ⟨ws, upd_same, r.fr R (Frame.put n)⟩⟩

/-! #### texts, lists, tuples put together -/
theorem dadd_str : DOp X (binaryOp .Add) (fun x y G Q => ∃ a b, x = .str a ∧ y = .str b ∧ a.length + b.length ≤ sizeLine ∧ Q (.str (a ++ b)) G) :=
  ⟨_, op_add_str, fun H G v u x y Qd Q R i j ⟨a, b, ex, ey, c, q⟩ k => by
    subst ex; subst ey
    cases i; cases j
    exact ⟨a, b, rfl, rfl, c, k _ _ _ _ (.refl R) (.str _) q⟩⟩
/-- list + list: a finished list -/
theorem dcat : DOp X (binaryOp .Add) (fun x y G Q => ∃ a b, vL G x = some a ∧ vL G y = some b ∧ a.length + b.length ≤ sizeLine ∧ Q (.lst (a ++ b)) G) :=
  ⟨_, op_cat, fun H G v u x y Qd Q R i j ⟨a, b, ex, ey, c, q⟩ k => by
    obtain ⟨p, vs, rfl, h1, r1⟩ := vL_at R i ex
    obtain ⟨p', ws, rfl, h2, r2⟩ := vL_at R j ey
    refine ⟨p, p', vs, ws, rfl, rfl, h1, h2, by rw [r1.length, r2.length]; exact c, fun l hl => ?_⟩
    obtain ⟨g, d⟩ := new_lst R hl (r1.append r2)
    exact k _ _ _ _ g d q⟩
theorem drep : DOp X (binaryOp .Mult) (fun x y G Q => ∃ a n, vL G x = some a ∧ y = .int n ∧ -(2 ^ 63) ≤ n ∧ n < 2 ^ 63 ∧ a.length * n.toNat ≤ sizeLine ∧ Q (.lst (List.replicate n.toNat a).flatten) G) :=
  ⟨_, op_rep, fun H G v u x y Qd Q R i j ⟨a, n, ex, ey, c1, c2, c3, q⟩ k => by
    obtain ⟨p, vs, rfl, h1, r1⟩ := vL_at R i ex
    subst ey
    cases j
    refine ⟨p, n, vs, rfl, rfl, h1, c1, c2, by rw [r1.length]; exact c3, fun l hl => ?_⟩
    obtain ⟨g, d⟩ := new_lst R hl (r1.rep n.toNat)
    exact k _ _ _ _ g d q⟩

/-! #### equality of data -/
mutual
theorem IsD.dp {K : PySem.W.Frag} {H : Hp} {G : DG} : ∀ {v : V} {d : D}, IsD K H G v d → d.flat = true → Dp K H v d.py
  | _, _, .non, _ => .non
  | _, _, .bl b, _ => .bl b
  | _, _, .int i, _ => .int i
  | _, _, .str x, _ => .str x
  | _, _, .ty n, h => by cases h
  | _, _, .ref a, h => by cases h
  | _, _, .tup h r, f => .tup h (IsDs.dp r f)
  | _, _, .lst h n r, f => .lst (SqL.of h) (IsDs.dp r f)
  | _, _, .scr h n r, f => .lst (.inl h) (IsDs.dp r f)
  | _, _, .scrK h r, f => .lst (SqL.anyH h H) (IsDs.dp r f)
theorem IsDs.dp {K : PySem.W.Frag} {H : Hp} {G : DG} : ∀ {vs : List V} {ds : List D}, IsDs K H G vs ds → D.flats ds = true → DpAll K H vs (D.pys ds)
  | _, _, .nil, _ => .nil
  | _, _, .cons h r, f => by
    have f' : (D.flat _ && D.flats _) = true := f
    rw [Bool.and_eq_true] at f'
    exact .cons (IsD.dp h f'.1) (IsDs.dp r f'.2)
end
/-- a value as data: itself, or the list that it is now -/
def vD (G : DG) : D → D
  | .ref a => match G a with
    | some (.lst ds) => .lst ds
    | _ => .ref a
  | x => x
theorem vD_dp {B : Bk} {H : Hp} {G : DG} {v : V} {x : D} (R : Rep B H G) (i : IsD B.K H G v x) (f : (vD G x).flat = true) : Dp B.K H v (vD G x).py := by
  cases x with
  | ref a =>
    unfold vD at f ⊢
    cases e : G a with
    | none => simp only [e] at f; cases f
    | some o =>
      cases o with
      | lst ds =>
        simp only [e] at f ⊢
        cases i
        obtain ⟨vs, h1, h2⟩ := R a _ e
        exact .lst (SqL.of h1) (IsDs.dp h2 f)
      | _ => simp only [e] at f; cases f
  | _ => exact i.dp f
/-- what == tells of data -/
def deqv (x y : D) : Bool := PyData.eqv x.py y.py
def okD (x : D) : Bool := x.flat && SeqAt.shaped x.py
def iEq : DR2 := fun x y G Q => okD (vD G x) = true ∧ okD (vD G y) = true ∧ Q (.bl (deqv (vD G x) (vD G y))) G
def iNe : DR2 := fun x y G Q => okD (vD G x) = true ∧ okD (vD G y) = true ∧ Q (.bl (!deqv (vD G x) (vD G y))) G
theorem deq (hu : X.A.units + 64 < cLine) : DOp X (compareOp .Eq) iEq :=
  ⟨_, op_eqD hu, fun H G v u x y Qd Q R i j ⟨c1, c2, q⟩ k => by
    unfold okD at c1 c2
    rw [Bool.and_eq_true] at c1 c2
    exact ⟨_, _, vD_dp R i c1.1, vD_dp R j c2.1, c1.2, c2.2, k _ _ _ _ (.refl R) (.bl _) q⟩⟩
theorem dne (hu : X.A.units + 64 < cLine) : DOp X (compareOp .NotEq) iNe :=
  ⟨_, op_neD hu, fun H G v u x y Qd Q R i j ⟨c1, c2, q⟩ k => by
    unfold okD at c1 c2
    rw [Bool.and_eq_true] at c1 c2
    exact ⟨_, _, vD_dp R i c1.1, vD_dp R j c2.1, c1.2, c2.2, k _ _ _ _ (.refl R) (.bl _) q⟩⟩
/-- two scalars of one kind: without the long way -/
def iEqS : DR2 := fun x y G Q => (∃ i j, x = .int i ∧ y = .int j ∧ Q (.bl (decide (i = j))) G) ∨ (∃ i j, x = .str i ∧ y = .str j ∧ Q (.bl (decide (i = j))) G) ∨ (∃ i j, x = .bl i ∧ y = .bl j ∧ Q (.bl (decide (i = j))) G)
def iNeS : DR2 := fun x y G Q => (∃ i j, x = .int i ∧ y = .int j ∧ Q (.bl (!decide (i = j))) G) ∨ (∃ i j, x = .str i ∧ y = .str j ∧ Q (.bl (!decide (i = j))) G) ∨ (∃ i j, x = .bl i ∧ y = .bl j ∧ Q (.bl (!decide (i = j))) G)
theorem deqS : DOp X (compareOp .Eq) iEqS :=
  ⟨_, op_eq, fun H G v u x y Qd Q R i j q k => by
    rcases q with ⟨a, b, rfl, rfl, q⟩ | ⟨a, b, rfl, rfl, q⟩ | ⟨a, b, rfl, rfl, q⟩
    · cases i; cases j
      exact ⟨rfl, k _ _ _ _ (.refl R) (.bl _) (by simpa using q)⟩
    · cases i; cases j
      exact ⟨rfl, k _ _ _ _ (.refl R) (.bl _) (by simpa using q)⟩
    · cases i; cases j
      exact ⟨rfl, k _ _ _ _ (.refl R) (.bl _) (by simpa using q)⟩⟩
theorem dneS : DOp X (compareOp .NotEq) iNeS :=
  ⟨_, op_ne, fun H G v u x y Qd Q R i j q k => by
    rcases q with ⟨a, b, rfl, rfl, q⟩ | ⟨a, b, rfl, rfl, q⟩ | ⟨a, b, rfl, rfl, q⟩
    · cases i; cases j
      exact ⟨rfl, k _ _ _ _ (.refl R) (.bl _) (by simpa using q)⟩
    · cases i; cases j
      exact ⟨rfl, k _ _ _ _ (.refl R) (.bl _) (by simpa using q)⟩
    · cases i; cases j
      exact ⟨rfl, k _ _ _ _ (.refl R) (.bl _) (by simpa using q)⟩⟩
/-- is None -/
def isNonD : D → Bool
  | .non => true
  | _ => false
theorem isN_at {K : PySem.W.Frag} {H : Hp} {G : DG} {v : V} {x : D} (i : IsD K H G v x) : decide (v = .non) = isNonD x := by
  cases i <;> rfl
theorem disN : DOp X (compareOp .Is) (fun x y G Q => y = .non ∧ Q (.bl (isNonD x)) G) :=
  ⟨_, op_isN, fun H G v u x y Qd Q R i j ⟨e, q⟩ k => by
    subst e
    cases j
    exact ⟨rfl, k _ _ _ _ (.refl R) (.bl _) (by rw [isN_at i]; exact q)⟩⟩
theorem dnotN : DOp X (compareOp .IsNot) (fun x y G Q => y = .non ∧ Q (.bl (!isNonD x)) G) :=
  ⟨_, op_notN, fun H G v u x y Qd Q R i j ⟨e, q⟩ k => by
    subst e
    cases j
    exact ⟨rfl, k _ _ _ _ (.refl R) (.bl _) (by rw [isN_at i]; exact q)⟩⟩
/-! #### in a list or tuple of data -/
def vT (G : DG) : D → Option (List D)
  | .tup ds => some ds
  | x => vL G x
def okDs (xs : List D) : Bool := xs.all D.flat && SeqAt.shaped (.list (D.pys xs))
def iIn (neg : Bool) : DR2 := fun x y G Q => ∃ ds, vL G y = some ds ∧ okD x = true ∧ okDs ds = true ∧ Q (.bl (if neg then !ds.any (fun z => deqv z x) else ds.any fun z => deqv z x)) G

/-! ### tests -/
theorem dt_val {e : Expr} {t : RE} (h : DE X e t) (he : ∀ whole, isTrue e X.env whole = (do let v ← whole; standAt e.pos; holding [v] (truthy v)) := by intro _; rfl) : DT X e (dTest t) :=
  PT.weak (pt_val h he) fun σ H Q ⟨τ, G, Qd, a, q, k⟩ => liftE_of a q fun v H1 d G1 g1 i1 ⟨c, e, q1⟩ => by
    subst e
    cases i1
    exact ⟨c, rfl, k _ _ _ g1 q1⟩
def dAndT (t u : RT) : RT := fun τ G Q => t τ G fun c G1 => if c = true then u τ G1 Q else Q false G1
def dOrT (t u : RT) : RT := fun τ G Q => t τ G fun c G1 => if c = true then Q true G1 else u τ G1 Q
def dNotT (t : RT) : RT := fun τ G Q => t τ G fun c G1 => Q (!c) G1
theorem DW.pt {e : Expr} {t : RT} (h : DW X e t) : DT X e t := PW.pt h
theorem dw_and1 {a : Expr} {pos : Pos} {t : RT} (ha : DT X a t) : DW X (.BoolOp .And [a] pos) t := pw_and1 ha
theorem dw_or1 {a : Expr} {pos : Pos} {t : RT} (ha : DT X a t) : DW X (.BoolOp .Or [a] pos) t := pw_or1 ha
theorem dw_and {a b : Expr} {rest : List Expr} {pos : Pos} {t u : RT} (ha : DT X a t) (hb : DW X (.BoolOp .And (b :: rest) pos) u) : DW X (.BoolOp .And (a :: b :: rest) pos) (dAndT t u) :=
  PW.weak (pw_and ha hb) fun σ H Q ⟨τ, G, Qd, a, q, k⟩ => liftT_of a q fun c H1 G1 g1 q1 => by
    cases c with
    | true => exact iteT (liftT_of (a.go g1) (by simpa using q1) fun c H2 G2 g2 q2 => k c H2 G2 (g1.trans g2) q2)
    | false => exact iteF (k false H1 G1 g1 (by simpa using q1))
theorem dw_or {a b : Expr} {rest : List Expr} {pos : Pos} {t u : RT} (ha : DT X a t) (hb : DW X (.BoolOp .Or (b :: rest) pos) u) : DW X (.BoolOp .Or (a :: b :: rest) pos) (dOrT t u) :=
  PW.weak (pw_or ha hb) fun σ H Q ⟨τ, G, Qd, a, q, k⟩ => liftT_of a q fun c H1 G1 g1 q1 => by
    cases c with
    | true => exact iteT (k true H1 G1 g1 (by simpa using q1))
    | false => exact iteF (liftT_of (a.go g1) (by simpa using q1) fun c H2 G2 g2 q2 => k c H2 G2 (g1.trans g2) q2)
theorem dt_not {a : Expr} {pos : Pos} {t : RT} (ha : DT X a t) : DT X (.UnaryOp .Not a pos) (dNotT t) :=
  PT.weak (pt_not ha) fun σ H Q ⟨τ, G, Qd, a, q, k⟩ => liftT_of a q fun c H1 G1 g1 q1 => k (!c) H1 G1 g1 q1
/-- and, or, not as values -/
def dAndV (t u : RE) : RE := fun τ G Q => t τ G fun d G1 => ∃ c, d = .bl c ∧ if c = true then u τ G1 Q else Q (.bl false) G1
def dOrV (t u : RE) : RE := fun τ G Q => t τ G fun d G1 => ∃ c, d = .bl c ∧ if c = true then Q (.bl true) G1 else u τ G1 Q
def dNotV (t : RE) : RE := fun τ G Q => t τ G fun d G1 => ∃ c, d = .bl c ∧ Q (.bl (!c)) G1
theorem de_one {op : BoolOp} {a : Expr} {pos : Pos} {t : RE} (ha : DE X a t) : DE X (.BoolOp op [a] pos) t := pe_one ha
theorem de_and {a b : Expr} {rest : List Expr} {pos : Pos} {t u : RE} (ha : DE X a t) (hb : DE X (.BoolOp .And (b :: rest) pos) u) : DE X (.BoolOp .And (a :: b :: rest) pos) (dAndV t u) :=
  PE.weak (pe_and ha hb) fun σ H Q ⟨τ, G, Qd, a, q, k⟩ => liftE_of a q fun v H1 d G1 g1 i1 ⟨c, e, q1⟩ => by
    subst e
    cases i1
    refine ⟨c, rfl, ?_⟩
    cases c with
    | true => exact iteT (liftE_of (a.go g1) (by simpa using q1) fun v H2 d G2 g2 i2 q2 => k v H2 d G2 (g1.trans g2) i2 q2)
    | false => exact iteF (k _ H1 _ G1 g1 (.bl _) (by simpa using q1))
theorem de_or {a b : Expr} {rest : List Expr} {pos : Pos} {t u : RE} (ha : DE X a t) (hb : DE X (.BoolOp .Or (b :: rest) pos) u) : DE X (.BoolOp .Or (a :: b :: rest) pos) (dOrV t u) :=
  PE.weak (pe_or ha hb) fun σ H Q ⟨τ, G, Qd, a, q, k⟩ => liftE_of a q fun v H1 d G1 g1 i1 ⟨c, e, q1⟩ => by
    subst e
    cases i1
    refine ⟨c, rfl, ?_⟩
    cases c with
    | true => exact iteT (k _ H1 _ G1 g1 (.bl _) (by simpa using q1))
    | false => exact iteF (liftE_of (a.go g1) (by simpa using q1) fun v H2 d G2 g2 i2 q2 => k v H2 d G2 (g1.trans g2) i2 q2)
theorem de_not {a : Expr} {pos : Pos} {t : RE} (ha : DE X a t) : DE X (.UnaryOp .Not a pos) (dNotV t) :=
  PE.weak (pe_not ha) fun σ H Q ⟨τ, G, Qd, a, q, k⟩ => liftE_of a q fun v H1 d G1 g1 i1 ⟨c, e, q1⟩ => by
    subst e
    cases i1
    exact ⟨c, rfl, k _ _ _ _ g1 (.bl _) q1⟩
def dIf (c : RT) (t u : RE) : RE := fun τ G Q => c τ G fun b G1 => if b = true then t τ G1 Q else u τ G1 Q
theorem de_ifExp {c a b : Expr} {pos : Pos} {tc : RT} {t u : RE} (hc : DT X c tc) (ha : DE X a t) (hb : DE X b u) : DE X (.IfExp c a b pos) (dIf tc t u) :=
  PE.weak (pe_ifExp hc ha hb) fun σ H Q ⟨τ, G, Qd, a, q, k⟩ => liftT_of a q fun c H1 G1 g1 q1 => by
    cases c with
    | true => exact iteT (liftE_of (a.go g1) (by simpa using q1) fun v H2 d G2 g2 i2 q2 => k v H2 d G2 (g1.trans g2) i2 q2)
    | false => exact iteF (liftE_of (a.go g1) (by simpa using q1) fun v H2 d G2 g2 i2 q2 => k v H2 d G2 (g1.trans g2) i2 q2)

/-! ### statements -/
def sNext : RS := fun D τ G => D.nx τ G
def sSeq (t u : RS) : RS := fun D τ G => t { D with nx := u D } τ G
theorem dss_nil : DSs X [] sNext := PSs.weak pss_nil fun D σ H ⟨τ, G, Dd, a, q, k⟩ => k.nx _ _ _ _ (.refl a.r) a.s q
theorem EndsOk.seq {B : Bk} {H : Hp} {G : DG} {D : Ends} {Dd : DEnds} {u : RS} (k : EndsOk B H G D Dd) : EndsOk B H G { D with nx := liftS B u D } { Dd with nx := u Dd } :=
  ⟨fun σ' H' τ' G' g s q => liftS_of ⟨s, g.r⟩ q (k.go g), k.rt, k.bk, k.ct⟩
theorem dss_cons {st : Stmt} {rest : List Stmt} {t u : RS} (h1 : DS X st t) (h2 : DSs X rest u) : DSs X (st :: rest) (sSeq t u) :=
  PSs.weak (pss_cons h1 h2) fun D σ H ⟨τ, G, Dd, a, q, k⟩ => liftS_of a q k.seq
theorem dss_one {st : Stmt} {t : RS} (h1 : DS X st t) : DSs X [st] t := pss_one h1
def sBreak : RS := fun D τ G => D.bk τ G
def sCont : RS := fun D τ G => D.ct τ G
theorem ds_pass {pos : Pos} : DS X (.Pass pos) sNext := PS.weak ps_pass fun D σ H ⟨τ, G, Dd, a, q, k⟩ => k.nx _ _ _ _ (.refl a.r) a.s q
theorem ds_break {pos : Pos} : DS X (.Break pos) sBreak := PS.weak ps_break fun D σ H ⟨τ, G, Dd, a, q, k⟩ => k.bk _ _ _ _ (.refl a.r) a.s q
theorem ds_continue {pos : Pos} : DS X (.Continue pos) sCont := PS.weak ps_continue fun D σ H ⟨τ, G, Dd, a, q, k⟩ => k.ct _ _ _ _ (.refl a.r) a.s q
def sDrop (t : RE) : RS := fun D τ G => t τ G fun _ G1 => D.nx τ G1
theorem ds_expr {e : Expr} {pos : Pos} {t : RE} (he : DE X e t) (hs : swapsWith e none pos.line X.env = pure false := by rfl) : DS X (.Expr e pos) (sDrop t) :=
  PS.weak (ps_expr he hs) fun D σ H ⟨τ, G, Dd, a, q, k⟩ => liftE_of a q fun v H1 d G1 g1 i1 q1 => k.nx _ _ _ _ g1 (a.go g1).s q1
def sRet (t : RE) : RS := fun D τ G => t τ G D.rt
theorem ds_ret {e : Expr} {pos : Pos} {t : RE} (he : DE X e t) : DS X (.Return (some e) pos) (sRet t) :=
  PS.weak (ps_ret he) fun D σ H ⟨τ, G, Dd, a, q, k⟩ => liftE_of a q fun v H1 d G1 g1 i1 q1 => k.rt _ _ _ _ g1 i1 q1
def sRetN : RS := fun D _ G => D.rt .non G
theorem ds_retN {pos : Pos} : DS X (.Return none pos) sRetN := PS.weak ps_retN fun D σ H ⟨τ, G, Dd, a, q, k⟩ => k.rt _ _ _ _ (.refl a.r) .non q
def sIf (c : RT) (t u : RS) : RS := fun D τ G => c τ G fun b G1 => if b = true then t D τ G1 else u D τ G1
theorem ds_if {c : Expr} {a b : List Stmt} {pos : Pos} {tc : RT} {t u : RS} (hc : DT X c tc) (ha : DSs X a t) (hb : DSs X b u) : DS X (.If c a b pos) (sIf tc t u) :=
  PS.weak (ps_if hc ha hb) fun D σ H ⟨τ, G, Dd, a, q, k⟩ => liftT_of a q fun c H1 G1 g1 q1 => by
    cases c with
    | true => exact iteT (liftS_of (a.go g1) (by simpa using q1) (k.go g1))
    | false => exact iteF (liftS_of (a.go g1) (by simpa using q1) (k.go g1))
def sNever : RS := fun _ _ _ => False
theorem ds_never {st : Stmt} : DS X st sNever := PS.weak (ps_never (X := X)) fun D σ H ⟨τ, G, Dd, a, q, k⟩ => q
theorem dss_never {st : List Stmt} : DSs X st sNever := PSs.weak (pss_never (X := X)) fun D σ H ⟨τ, G, Dd, a, q, k⟩ => q

/-! ### targets -/
inductive Tg where
  | nm (i : Nat)
  | tp (ts : List Tg)
mutual
def Tg.hg (K : PySem.W.Frag) : Tg → TG
  | .nm i => gName i
  | .tp ts => gTup K ts.length (Tg.hgs K ts)
def Tg.hgs (K : PySem.W.Frag) : List Tg → TGs
  | [] => gNil
  | t :: ts => gCons (t.hg K) (Tg.hgs K ts)
end
mutual
/-- the slots behind a store; none: it can't be unpacked so -/
def Tg.put : Tg → D → DSt → Option DSt
  | .nm i, d, τ => some (τ.set i (some d))
  | .tp ts, d, τ => match d with
    | .tup ds => Tg.puts ts ds τ
    | _ => none
def Tg.puts : List Tg → List D → DSt → Option DSt
  | [], [], τ => some τ
  | t :: ts, d :: ds, τ => match t.put d τ with
    | some τ' => Tg.puts ts ds τ'
    | none => none
  | _, _, _ => none
end
mutual
def Tg.slots : Tg → List Nat
  | .nm i => [i]
  | .tp ts => Tg.slotss ts
def Tg.slotss : List Tg → List Nat
  | [] => []
  | t :: ts => t.slots ++ Tg.slotss ts
end
/-- wiped alike: the slots that differ are among vs -/
def WipedAs (vs : List Nat) (σ σ' : St) : Prop := wipe σ' vs = wipe σ vs
theorem wipe_set {vs : List Nat} {σ : St} {i : Nat} {v : Option V} (h : i ∈ vs) : wipe (σ.set i v) vs = wipe σ vs := by
  induction vs generalizing σ with
  | nil => cases h
  | cons w vs ih =>
    by_cases hm : i ∈ vs
    · show (wipe _ vs).set w none = (wipe _ vs).set w none
      rw [ih hm]
    · have hw : i = w := by
        rcases List.mem_cons.mp h with e | e
        · exact e
        · exact absurd e hm
      subst hw
      have : ∀ (us : List Nat) (σ : St), i ∉ us → wipe (σ.set i v) us = (wipe σ us).set i v := by
        intro us
        induction us with
        | nil => intro σ _; rfl
        | cons u us ih2 =>
          intro σ hn
          have h1 : i ≠ u := fun e => hn (by rw [e]; exact List.mem_cons_self)
          have h2 : i ∉ us := fun e => hn (List.mem_cons_of_mem _ e)
          show (wipe _ us).set u none = ((wipe _ us).set u none).set i v
          rw [ih2 _ h2, List.set_comm _ _ h1]
      show (wipe _ vs).set i none = (wipe _ vs).set i none
      rw [this vs σ hm, List.set_set]
mutual
theorem hg_ok {B : Bk} {vs : List Nat} : ∀ (t : Tg) {v : V} {d : D} {σ : St} {τ τ' : DSt} {H : Hp} {G : DG} {Q : St → Hp → Prop}, (∀ i ∈ t.slots, i ∈ vs) → IsD B.K H G v d → RelS B.K H G σ τ → t.put d τ = some τ' →
    (∀ σ', RelS B.K H G σ' τ' → WipedAs vs σ σ' → Q σ' H) → t.hg B.K v σ H Q
  | .nm i, v, d, σ, τ, τ', H, G, Q, hs, i1, r, e, k => by
    have e : some (τ.set i (some d)) = some τ' := e
    cases e
    exact k _ (r.set i1 i) (wipe_set (hs i (by simp [Tg.slots])))
  | .tp ts, v, d, σ, τ, τ', H, G, Q, hs, i1, r, e, k => by
    cases d with
    | tup ds =>
      have e : Tg.puts ts ds τ = some τ' := e
      obtain ⟨a, us, rfl, h1, h2⟩ := tup_at i1
      have hl : ts.length = ds.length := puts_len ts e
      exact ⟨a, us, rfl, h1, by rw [h2.length, hl], hgs_ok ts (fun i hi => hs i hi) h2 r e k⟩
    | _ => cases e
theorem hgs_ok {B : Bk} {vs : List Nat} : ∀ (ts : List Tg) {us : List V} {ds : List D} {σ : St} {τ τ' : DSt} {H : Hp} {G : DG} {Q : St → Hp → Prop}, (∀ i ∈ Tg.slotss ts, i ∈ vs) → IsDs B.K H G us ds → RelS B.K H G σ τ → Tg.puts ts ds τ = some τ' →
    (∀ σ', RelS B.K H G σ' τ' → WipedAs vs σ σ' → Q σ' H) → Tg.hgs B.K ts us σ H Q
  | [], us, ds, σ, τ, τ', H, G, Q, hs, i1, r, e, k => by
    cases ds with
    | nil =>
      cases i1
      have e : some τ = some τ' := e
      cases e
      exact ⟨rfl, k σ r rfl⟩
    | cons _ _ => cases e
  | t :: ts, us, ds, σ, τ, τ', H, G, Q, hs, i1, r, e, k => by
    cases ds with
    | nil => cases e
    | cons d ds =>
      cases i1 with
      | @cons v us' _ _ h1 h2 =>
        have e : (match t.put d τ with | some τ1 => Tg.puts ts ds τ1 | none => none) = some τ' := e
        cases q : t.put d τ with
        | none => rw [q] at e; cases e
        | some τ1 =>
          rw [q] at e
          refine ⟨v, us', rfl, hg_ok t (fun i hi => hs i (List.mem_append_left _ hi)) h1 r q fun σ1 r1 w1 => ?_⟩
          exact hgs_ok ts (fun i hi => hs i (List.mem_append_right _ hi)) h2 r1 e fun σ2 r2 w2 => k σ2 r2 (Eq.trans w2 w1)
theorem puts_len : ∀ (ts : List Tg) {ds : List D} {τ τ' : DSt}, Tg.puts ts ds τ = some τ' → ts.length = ds.length
  | [], [], _, _, _ => rfl
  | [], _ :: _, _, _, e => by cases e
  | _ :: _, [], _, _, e => by cases e
  | t :: ts, d :: ds, τ, τ', e => by
    have e : (match t.put d τ with | some τ1 => Tg.puts ts ds τ1 | none => none) = some τ' := e
    cases q : t.put d τ with
    | none => rw [q] at e; cases e
    | some τ1 =>
      rw [q] at e
      rw [List.length_cons, List.length_cons, puts_len ts e]
end
abbrev DTg (X : Cx) (e : Expr) (t : Tg) : Prop := PG X e (t.hg X.K)
abbrev DTgs (X : Cx) (es : List Expr) (ts : List Tg) : Prop := PGs X es (Tg.hgs X.K ts)
theorem tg_nm (i : Nat) {x : Str} {pos : Pos} (hN : X.N.Nodup) (hi : X.N[i]? = some x := by rfl) (hx : Loc X.env.scope x := by first | exact .inl rfl | exact .inr rfl) (hf : X.fn x = true ∨ X.env.scope.names.lookup x = some .local := by first | exact .inl rfl | exact .inr rfl | assumption) : DTg X (.Name x pos) (.nm i) := pg_name hN hi hx hf
theorem tgs_nil : DTgs X [] [] := pgs_nil
theorem tgs_cons {e : Expr} {es : List Expr} {t : Tg} {ts : List Tg} (h1 : DTg X e t) (h2 : DTgs X es ts) (hs : (assignEach (e :: es) X.env).map (·.2) = assign e X.env :: (assignEach es X.env).map (·.2) := by rfl) : DTgs X (e :: es) (t :: ts) := pgs_cons h1 h2 hs
theorem tg_tp {es : List Expr} {k : Nat} {pos : Pos} {ts : List Tg} (hc : X.calm = true) (h : DTgs X es ts) (hn : (assignEach es X.env).length = ts.length := by rfl) (hst : (assignEach es X.env).findIdx? (·.1) = none := by rfl) : DTg X (.Tuple es k pos) (.tp ts) := pg_tup hc h hn hst

/-- target = value -/
def sAsg (t : RE) (g : Tg) : RS := fun D τ G => t τ G fun d G1 => ∃ τ', g.put d τ = some τ' ∧ D.nx τ' G1
theorem ds_asg {tg e : Expr} {pos : Pos} {t : RE} {g : Tg} (he : DE X e t) (hg : DTg X tg g) (hs : swapsWithSole [tg] e pos.line X.env = pure false := by rfl) (hw : swappedStores [tg] e X.env = pure none := by rfl)
    (h1 : (assignEach [tg] X.env).map (·.2) = [assign tg X.env] := by rfl) : DS X (.Assign [tg] e pos) (sAsg t g) :=
  PS.weak (ps_asg he hg hs hw h1) fun D σ H ⟨τ, G, Dd, a, q, k⟩ => liftE_of a q fun v H1 d G1 g1 i1 ⟨τ', e, q1⟩ =>
    hg_ok (B := bkx X) (vs := g.slots) g (fun _ h => h) i1 (a.go g1).s e fun σ' r _ => k.nx _ _ _ _ g1 r q1
/-- name = value -/
def sSet (i : Nat) (t : RE) : RS := fun D τ G => t τ G fun d G1 => D.nx (τ.set i (some d)) G1
theorem ds_set (i : Nat) {x : Str} {e : Expr} {pos pos' : Pos} {t : RE} (hN : X.N.Nodup) (he : DE X e t) (hi : X.N[i]? = some x := by rfl) (hx : Loc X.env.scope x := by first | exact .inl rfl | exact .inr rfl) (hs : swapsWith e (some (.Name x pos')) pos.line X.env = pure false := by rfl)
    (hf : X.fn x = true ∨ X.env.scope.names.lookup x = some .local := by first | exact .inl rfl | exact .inr rfl | assumption) : DS X (.Assign [.Name x pos'] e pos) (sSet i t) :=
  PS.weak (ps_set hN hi hx he hs hf) fun D σ H ⟨τ, G, Dd, a, q, k⟩ => liftE_of a q fun v H1 d G1 g1 i1 q1 => k.nx _ _ _ _ g1 ((a.go g1).s.set i1 i) q1
/-- a, b = x, y -/
def sPar (i j : Nat) (t : RA) : RS := fun D τ G => t τ G fun ds G1 => ∃ x y, ds = [x, y] ∧ D.nx ((τ.set i (some x)).set j (some y)) G1
theorem ds_par (i j : Nat) {x y : Str} {a b : Expr} {t : RA} {px py pt pos : Pos} {kt k2 pt2} (hc : X.calm = true) (hN : X.N.Nodup) (ha : DA X [a, b] t)
    (hw : swappedStores [.Tuple [.Name x px, .Name y py] kt pt] (.Tuple [a, b] k2 pt2) X.env = pure (some [x, y]))
    (hi : X.N[i]? = some x := by rfl) (hj : X.N[j]? = some y := by rfl) (hij : i ≠ j := by decide)
    (hx : X.env.scope.names.lookup x = some .local := by rfl) (hy : X.env.scope.names.lookup y = some .local := by rfl)
    (hs : swapsWithSole [.Tuple [.Name x px, .Name y py] kt pt] (.Tuple [a, b] k2 pt2) pos.line X.env = pure false := by rfl) :
    DS X (.Assign [.Tuple [.Name x px, .Name y py] kt pt] (.Tuple [a, b] k2 pt2) pos) (sPar i j t) :=
  PS.weak (ps_par hc hN hi hj hij hx hy ha hw hs) fun D σ H ⟨τ, G, Dd, a, q, k⟩ => liftA_of a q fun vs H1 ds G1 g1 i1 l ⟨x, y, e, q1⟩ => by
    subst e
    cases i1 with
    | cons a1 r1 =>
      cases r1 with
      | cons a2 r2 =>
        cases r2
        exact ⟨_, _, rfl, k.nx _ _ _ _ g1 (((a.go g1).s.set a1 i).set a2 j) q1⟩
/-- name op= e, ints -/
def sAug (i : Nat) (t : RE) (f : Int → Int → Int) : RS := fun D τ G => ∃ x, τ[i]? = some (some (.int x)) ∧ t τ G fun d G1 => ∃ y, d = .int y ∧ D.nx (τ.set i (some (.int (f x y)))) G1
theorem ds_aug (i : Nat) {x : Str} {e : Expr} {op : Operator} {pos pos' : Pos} {t : RE} {f : Int → Int → Int} (hN : X.N.Nodup) (he : DE X e t) (ho : PIp X op (ipI f)) (hi : X.N[i]? = some x := by rfl) (hx : Loc X.env.scope x := by first | exact .inl rfl | exact .inr rfl)
    (hf : X.fn x = true ∨ X.env.scope.names.lookup x = some .local := by first | exact .inl rfl | exact .inr rfl | assumption) : DS X (.AugAssign (.Name x pos') op e pos) (sAug i t f) :=
  PS.weak (ps_aug hN hi hx he ho hf) fun D σ H ⟨τ, G, Dd, a, ⟨x, ex, q⟩, k⟩ => by
    obtain ⟨v, hv, iv⟩ := a.s.2 i _ ex
    cases iv
    refine ⟨_, hv, liftE_of a q fun u H1 d G1 g1 i1 ⟨y, e, q1⟩ => ?_⟩
    subst e
    cases i1
    exact ⟨x, y, rfl, rfl, k.nx _ _ _ _ g1 ((a.go g1).s.set (.int _) i) q1⟩
end
end QF
/-! QC: over data: loops, comprehensions, calls, attributes, subscripts, built-ins. -/
namespace QF
open PySem L2

/-! ### what is walked -/
structure ItOk (B : Bk) (J : It) (items : List D) (ok : DG → Prop) (S : Hp → DG → Prop) : Prop where
  mono : ∀ H G H' G', Rep B H G → S H G → Go B H G H' G' → S H' G'
  go : ∀ i H G, Rep B H G → S H G → ok G → i < items.length → J.go i H
  stop : ∀ i H G, Rep B H G → S H G → ok G → i = items.length → J.stop i H
  yld : ∀ i H G x H' d, Rep B H G → S H G → ok G → items[i]? = some d → J.yld i H x H' → IsD B.K H' G x d ∧ Go B H G H' G
abbrev RI := DSt → DG → (List D → (DG → Prop) → DG → Prop) → Prop
def liftI (B : Bk) (wi : RI) : TI := fun σ H R => ∃ τ G Rd, At B σ H τ G ∧ wi τ G Rd ∧ ∀ J H' G' items ok S, Go B H G H' G' → S H' G' → ItOk B J items ok S → Rd items ok G' → R J H'
def DI (X : Cx) (tg iter : Expr) (wi : RI) : Prop := PI X tg iter (liftI (bkx X) wi)
theorem PI.weak {X : Cx} {tg iter : Expr} {t t' : TI} (h : PI X tg iter t) (w : ∀ σ H R, t' σ H R → t σ H R) : PI X tg iter t' := ⟨fun pins s σ H R I q => h.run pins s σ H R I (w _ _ _ q)⟩
section
variable {X : Cx}
/-- a list (finished, held, or the script) -/
def wList (t : RE) : RI := fun τ G R => t τ G fun x G1 => ∃ ds, vS G1 x = some ds ∧ R ds (fun G' => vS G' x = some ds) G1
theorem itl_ok {B : Bk} {a : Addr} {x : D} {ds : List D} : ItOk B (Itl B.K a) ds (fun G => vS G x = some ds) (fun H G => IsD B.K H G (.ref a) x) where
  mono := fun H G H' G' R s g => s.fr R g.f
  go := fun i H G R s ok h => by
    obtain ⟨a', vs, e, h1, h2⟩ := vS_at R s ok
    cases e
    have hl := h2.length
    exact ⟨vs, vs[i]'(by omega), h1, by simp⟩
  stop := fun i H G R s ok h => by
    obtain ⟨a', vs, e, h1, h2⟩ := vS_at R s ok
    cases e
    have hl := h2.length
    exact ⟨vs, h1, by omega⟩
  yld := fun i H G y H' d R s ok hd hy => by
    obtain ⟨a', vs, e, h1, h2⟩ := vS_at R s ok
    cases e
    obtain ⟨e, q⟩ := hy
    subst e
    obtain ⟨v, hv, iv⟩ := h2.get hd
    have := q vs h1
    rw [hv] at this
    cases this
    exact ⟨iv, .refl R⟩
theorem di_list {tg l : Expr} {t : RE} (h : DE X l t) : DI X tg l (wList t) :=
  PI.weak (pi_list h) fun σ H R ⟨τ, G, Rd, a, q, k⟩ => liftE_of a q fun v H1 x G1 g1 i1 ⟨ds, e, q1⟩ => by
    obtain ⟨p, vs, rfl, h1, h2⟩ := vS_at g1.r i1 e
    exact ⟨p, rfl, ⟨vs, h1⟩, k _ _ _ _ _ _ g1 i1 itl_ok q1⟩
/-- a tuple -/
def wTup (t : RE) : RI := fun τ G R => t τ G fun x G1 => ∃ ds, x = .tup ds ∧ R ds (fun _ => True) G1
theorem itt_ok {B : Bk} {a : Addr} {ds : List D} : ItOk B (Itt B.K a) ds (fun _ => True) (fun H G => IsD B.K H G (.ref a) (.tup ds)) where
  mono := fun H G H' G' R s g => s.fr R g.f
  go := fun i H G R s ok h => by
    obtain ⟨a', vs, e, h1, h2⟩ := tup_at s
    cases e
    have hl := h2.length
    exact ⟨vs, vs[i]'(by omega), h1, by simp⟩
  stop := fun i H G R s ok h => by
    obtain ⟨a', vs, e, h1, h2⟩ := tup_at s
    cases e
    have hl := h2.length
    exact ⟨vs, h1, by omega⟩
  yld := fun i H G y H' d R s ok hd hy => by
    obtain ⟨a', vs, e, h1, h2⟩ := tup_at s
    cases e
    obtain ⟨e, q⟩ := hy
    subst e
    obtain ⟨v, hv, iv⟩ := h2.get hd
    have := q vs h1
    rw [hv] at this
    cases this
    exact ⟨iv, .refl R⟩
theorem di_tup {tg l : Expr} {t : RE} (h : DE X l t) : DI X tg l (wTup t) :=
  PI.weak (pi_tup h) fun σ H R ⟨τ, G, Rd, a, q, k⟩ => liftE_of a q fun v H1 x G1 g1 i1 ⟨ds, e, q1⟩ => by
    subst e
    obtain ⟨p, vs, rfl, h1, h2⟩ := tup_at i1
    exact ⟨p, rfl, ⟨vs, h1⟩, k _ _ _ _ _ _ g1 i1 itt_ok q1⟩
/-- lo, lo + 1, .. -/
def rangeD (lo : Int) (n : Nat) : List D := (List.range n).map fun (i : Nat) => D.int (lo + i)
theorem rangeD_length (lo : Int) (n : Nat) : (rangeD lo n).length = n := by simp [rangeD]
theorem itr_ok {B : Bk} {lo : Int} {n : Nat} : ItOk B (Itr lo n) (rangeD lo n) (fun _ => True) (fun _ _ => True) where
  mono := fun _ _ _ _ _ _ _ => True.intro
  go := fun i H G R s ok h => by rw [rangeD_length] at h; exact h
  stop := fun i H G R s ok h => by rw [rangeD_length] at h; exact Nat.le_of_eq h.symm
  yld := fun i H G y H' d R s ok hd hy => by
    obtain ⟨e, q⟩ := hy
    subst e; subst q
    unfold rangeD at hd
    rw [List.getElem?_map] at hd
    cases q : (List.range n)[i]? with
    | none => rw [q] at hd; cases hd
    | some j =>
      rw [q] at hd
      have : j = i := by
        have := List.getElem?_eq_some_iff.mp q
        obtain ⟨h, e⟩ := this
        simpa using e.symm
      subst this
      cases hd
      exact ⟨.int _, .refl R⟩
def RgOkD (i j : Int) : Prop := -(2 ^ 62) ≤ i ∧ i < 2 ^ 62 ∧ -(2 ^ 62) ≤ j ∧ j < 2 ^ 62
def wRng1 (t : RA) : RI := fun τ G R => t τ G fun ds G1 => ∃ j, ds = [.int j] ∧ RgOkD 0 j ∧ R (rangeD 0 j.toNat) (fun _ => True) G1
def wRng2 (t : RA) : RI := fun τ G R => t τ G fun ds G1 => ∃ i j, ds = [.int i, .int j] ∧ RgOkD i j ∧ R (rangeD i (j - i).toNat) (fun _ => True) G1
theorem di_range1 {tg a : Expr} {t : RA} {p pos : Pos} (hg : Gl X "range") (hm : X.mg "range" = none) (h : DA X [a] t) (hs : starEach [a] X.env = [(false, eval a X.env)] := by rfl) : DI X tg (.Call (.Name "range" p) [a] [] pos) (wRng1 t) :=
  PI.weak (pi_range1 hg hm h hs) fun σ H R ⟨τ, G, Rd, a, q, k⟩ => liftA_of a q fun vs H1 ds G1 g1 i1 l ⟨j, e, c, q1⟩ => by
    subst e
    cases i1 with
    | cons a1 r1 =>
      cases r1
      cases a1
      exact ⟨j, rfl, c.2.2.1, c.2.2.2, k _ _ _ _ _ _ g1 True.intro itr_ok q1⟩
theorem di_range2 {tg a b : Expr} {t : RA} {p pos : Pos} (hg : Gl X "range") (hm : X.mg "range" = none) (h : DA X [a, b] t) (hs : starEach [a, b] X.env = [(false, eval a X.env), (false, eval b X.env)] := by rfl) (hs2 : starEach [b] X.env = [(false, eval b X.env)] := by rfl) :
    DI X tg (.Call (.Name "range" p) [a, b] [] pos) (wRng2 t) :=
  PI.weak (pi_range2 hg hm h hs hs2) fun σ H R ⟨τ, G, Rd, a, q, k⟩ => liftA_of a q fun vs H1 ds G1 g1 i1 l ⟨i, j, e, c, q1⟩ => by
    subst e
    cases i1 with
    | cons a1 r1 =>
      cases r1 with
      | cons a2 r2 =>
        cases r2
        cases a1
        cases a2
        exact ⟨i, j, rfl, c, k _ _ _ _ _ _ g1 True.intro itr_ok q1⟩
/-- a, a + c, .. (n of them) -/
def rangeC (a c : Int) (n : Nat) : List D := (List.range n).map fun (i : Nat) => D.int (a + (i : Int) * c)
theorem rangeC_length (a c : Int) (n : Nat) : (rangeC a c n).length = n := by simp [rangeC]
theorem itc_ok {B : Bk} {a c : Int} {n : Nat} : ItOk B (Itc a c n) (rangeC a c n) (fun _ => True) (fun _ _ => True) where
  mono := fun _ _ _ _ _ _ _ => True.intro
  go := fun i H G R s ok h => by rw [rangeC_length] at h; exact h
  stop := fun i H G R s ok h => by rw [rangeC_length] at h; exact Nat.le_of_eq h.symm
  yld := fun i H G y H' d R s ok hd hy => by
    obtain ⟨e, q⟩ := hy
    subst e; subst q
    unfold rangeC at hd
    rw [List.getElem?_map] at hd
    cases q : (List.range n)[i]? with
    | none => rw [q] at hd; cases hd
    | some j =>
      rw [q] at hd
      have : j = i := by
        obtain ⟨h, e⟩ := List.getElem?_eq_some_iff.mp q
        simpa using e.symm
      subst this
      cases hd
      exact ⟨.int _, .refl R⟩
def wRng3 (t : RA) : RI := fun τ G R => t τ G fun ds G1 => ∃ (i j c : Int) (n : Nat), ds = [.int i, .int j, .int c] ∧ RgC i j c n ∧ R (rangeC i c n) (fun _ => True) G1
theorem di_range3 {tg a b c : Expr} {t : RA} {p pos : Pos} {tA : RA} (h0 : PI X tg (.Call (.Name "range" p) [a, b, c] [] pos) (iRng3 (liftA (bkx X) 3 t))) : DI X tg (.Call (.Name "range" p) [a, b, c] [] pos) (wRng3 t) :=
  PI.weak h0 fun σ H R ⟨τ, G, Rd, a, q, k⟩ => liftA_of a q fun vs H1 ds G1 g1 i1 l ⟨i, j, c, n, e, cc, q1⟩ => by
    subst e
    cases i1 with
    | cons a1 r1 =>
      cases r1 with
      | cons a2 r2 =>
        cases r2 with
        | cons a3 r3 =>
          cases r3
          cases a1
          cases a2
          cases a3
          exact ⟨i, j, c, n, rfl, cc, k _ _ _ _ _ _ g1 True.intro itc_ok q1⟩
/-- a text, sign by sign -/
def strD (x : Str) : List D := x.cps.toList.map fun c => D.str ⟨#[c]⟩
def wStr (t : RE) : RI := fun τ G R => t τ G fun x G1 => ∃ z, x = .str z ∧ R (strD z) (fun _ => True) G1
theorem its_ok {B : Bk} {x : Str} : ItOk B (Its x) (strD x) (fun _ => True) (fun _ _ => True) where
  mono := fun _ _ _ _ _ _ _ => True.intro
  go := fun i H G R s ok h => by
    have : i < x.cps.size := by simpa [strD] using h
    exact this
  stop := fun i H G R s ok h => by
    have : i = x.cps.size := by simpa [strD] using h
    exact Nat.le_of_eq this.symm
  yld := fun i H G y H' d R s ok hd hy => by
    obtain ⟨e, c, hc, q⟩ := hy
    subst e; subst q
    unfold strD at hd
    rw [List.getElem?_map, Array.getElem?_toList, hc] at hd
    cases hd
    exact ⟨.str _, .refl R⟩
theorem di_str {tg e : Expr} {t : RE} (h : DE X e t) : DI X tg e (wStr t) :=
  PI.weak (pi_str h) fun σ H R ⟨τ, G, Rd, a, q, k⟩ => liftE_of a q fun v H1 x G1 g1 i1 ⟨z, e, q1⟩ => by
    subst e
    cases i1
    exact ⟨z, rfl, k _ _ _ _ _ _ g1 True.intro its_ok q1⟩
/-- enumerate(list) -/
def enumD (ds : List D) : List D := ds.zipIdx.map fun p => D.tup [.int (p.2 : Nat), p.1]
theorem enumD_length (ds : List D) : (enumD ds).length = ds.length := by simp [enumD]
theorem enumD_get {ds : List D} {i : Nat} {d : D} (h : (enumD ds)[i]? = some d) : ∃ e, ds[i]? = some e ∧ d = .tup [.int (i : Nat), e] := by
  unfold enumD at h
  rw [List.getElem?_map, List.getElem?_zipIdx] at h
  cases q : ds[i]? with
  | none => rw [q] at h; cases h
  | some e => rw [q] at h; simp at h; exact ⟨e, rfl, h.symm⟩
def wEnum (t : RA) : RI := fun τ G R => t τ G fun xs G1 => ∃ x ds, xs = [x] ∧ vS G1 x = some ds ∧ R (enumD ds) (fun G' => vS G' x = some ds) G1
theorem ite_ok {B : Bk} {a : Addr} {x : D} {ds : List D} : ItOk B (Ite B.K a) (enumD ds) (fun G => vS G x = some ds) (fun H G => IsD B.K H G (.ref a) x) where
  mono := fun H G H' G' R s g => s.fr R g.f
  go := fun i H G R s ok h => by
    rw [enumD_length] at h
    obtain ⟨a', vs, e, h1, h2⟩ := vS_at R s ok
    cases e
    have hl := h2.length
    exact ⟨vs, vs[i]'(by omega), h1, by simp⟩
  stop := fun i H G R s ok h => by
    rw [enumD_length] at h
    obtain ⟨a', vs, e, h1, h2⟩ := vS_at R s ok
    cases e
    have hl := h2.length
    exact ⟨vs, h1, by omega⟩
  yld := fun i H G y H' d R s ok hd hy => by
    obtain ⟨a', vs, e, h1, h2⟩ := vS_at R s ok
    cases e
    obtain ⟨T, u, e, hT, e', q⟩ := hy
    subst e; subst e'
    obtain ⟨e, he, rfl⟩ := enumD_get hd
    obtain ⟨v, hv, iv⟩ := h2.get he
    have := q vs h1
    rw [hv] at this
    cases this
    obtain ⟨g, z⟩ := new_tup R hT (.cons (.int _) (.cons iv .nil))
    exact ⟨z, g⟩
theorem di_enum {e : Expr} {t : RA} {p pos tpos : Pos} {elts : List Expr} {kk : Nat} (hg : Gl X "enumerate") (hm : X.mg "enumerate" = none) (h : DA X [e] t) (hs : starEach [e] X.env = [(false, eval e X.env)] := by rfl) :
    DI X (.Tuple elts kk tpos) (.Call (.Name "enumerate" p) [e] [] pos) (wEnum t) :=
  PI.weak (pi_enum hg hm h hs) fun σ H R ⟨τ, G, Rd, a, q, k⟩ => liftA_of a q fun vs H1 ds G1 g1 i1 l ⟨x, es, e, ex, q1⟩ => by
    subst e
    cases i1 with
    | cons a1 r1 =>
      cases r1
      obtain ⟨p, us, rfl, h1, h2⟩ := vS_at g1.r a1 ex
      exact ⟨p, us, rfl, h1, k _ _ _ _ _ _ g1 a1 ite_ok q1⟩
/-- zip(list, list) -/
def zipD (xs ys : List D) : List D := (xs.zip ys).map fun p => D.tup [p.1, p.2]
theorem zipD_length (xs ys : List D) : (zipD xs ys).length = min xs.length ys.length := by simp [zipD]
theorem zipD_get {xs ys : List D} {i : Nat} {d : D} (h : (zipD xs ys)[i]? = some d) : ∃ x y, xs[i]? = some x ∧ ys[i]? = some y ∧ d = .tup [x, y] := by
  unfold zipD at h
  rw [List.getElem?_map] at h
  cases q : (xs.zip ys)[i]? with
  | none => rw [q] at h; cases h
  | some p =>
    rw [q] at h
    cases h
    have := List.getElem?_zip_eq_some.mp q
    exact ⟨p.1, p.2, this.1, this.2, rfl⟩
def wZip (t : RA) : RI := fun τ G R => t τ G fun zs G1 => ∃ x y xs ys, zs = [x, y] ∧ vS G1 x = some xs ∧ vS G1 y = some ys ∧ R (zipD xs ys) (fun G' => vS G' x = some xs ∧ vS G' y = some ys) G1
theorem itz_ok {B : Bk} {a b : Addr} {x y : D} {xs ys : List D} : ItOk B (Itz B.K a b) (zipD xs ys) (fun G => vS G x = some xs ∧ vS G y = some ys) (fun H G => IsD B.K H G (.ref a) x ∧ IsD B.K H G (.ref b) y) where
  mono := fun H G H' G' R s g => ⟨s.1.fr R g.f, s.2.fr R g.f⟩
  go := fun i H G R s ok h => by
    rw [zipD_length] at h
    obtain ⟨a', vs, e, h1, h2⟩ := vS_at R s.1 ok.1
    cases e
    obtain ⟨b', ws, e, h3, h4⟩ := vS_at R s.2 ok.2
    cases e
    have hl := h2.length
    have hl' := h4.length
    exact ⟨vs, ws, vs[i]'(by omega), ws[i]'(by omega), h1, h3, by simp, by simp⟩
  stop := fun i H G R s ok h => by
    rw [zipD_length] at h
    obtain ⟨a', vs, e, h1, h2⟩ := vS_at R s.1 ok.1
    cases e
    obtain ⟨b', ws, e, h3, h4⟩ := vS_at R s.2 ok.2
    cases e
    have hl := h2.length
    have hl' := h4.length
    exact ⟨vs, ws, h1, h3, by omega⟩
  yld := fun i H G v H' d R s ok hd hy => by
    obtain ⟨a', vs, e, h1, h2⟩ := vS_at R s.1 ok.1
    cases e
    obtain ⟨b', ws, e, h3, h4⟩ := vS_at R s.2 ok.2
    cases e
    obtain ⟨T, u, u', e, hT, e', q, q'⟩ := hy
    subst e; subst e'
    obtain ⟨x', y', hx, hy', rfl⟩ := zipD_get hd
    obtain ⟨v1, hv1, iv1⟩ := h2.get hx
    obtain ⟨v2, hv2, iv2⟩ := h4.get hy'
    have e1 := q vs h1
    have e2 := q' ws h3
    rw [hv1] at e1
    rw [hv2] at e2
    cases e1
    cases e2
    obtain ⟨g, z⟩ := new_tup R hT (.cons iv1 (.cons iv2 .nil))
    exact ⟨z, g⟩
theorem di_zip {e e2 : Expr} {t : RA} {p pos tpos : Pos} {elts : List Expr} {kk : Nat} (hg : Gl X "zip") (hm : X.mg "zip" = none) (h : DA X [e, e2] t)
    (hs : starEach [e, e2] X.env = (false, eval e X.env) :: starEach [e2] X.env := by rfl) (hpl : (backTo pos (starEach [e2] X.env)).any (·.1) = false := by rfl) :
    DI X (.Tuple elts kk tpos) (.Call (.Name "zip" p) [e, e2] [] pos) (wZip t) :=
  PI.weak (pi_zip hg hm h hs hpl) fun σ H R ⟨τ, G, Rd, a, q, k⟩ => liftA_of a q fun vs H1 ds G1 g1 i1 l ⟨x, y, xs, ys, e, ex, ey, q1⟩ => by
    subst e
    cases i1 with
    | cons a1 r1 =>
      cases r1 with
      | cons a2 r2 =>
        cases r2
        obtain ⟨p, us, rfl, h1, h2⟩ := vS_at g1.r a1 ex
        obtain ⟨p', us', rfl, h1', h2'⟩ := vS_at g1.r a2 ey
        exact ⟨p, p', us, us', rfl, h1, h1', k _ _ _ _ _ _ g1 ⟨a1, a2⟩ itz_ok q1⟩
end

/-! ### for -/
def feach (g : Tg) (b : RS) (D : DEnds) (ok : DG → Prop) : List QF.D → DSt → DG → Prop
  | [], τ, G => ok G ∧ D.nx τ G
  | d :: ds, τ, G => ok G ∧ ∃ τ', g.put d τ = some τ' ∧ b { D with nx := feach g b D ok ds, ct := feach g b D ok ds, bk := D.nx } τ' G
def sFor (wi : RI) (g : Tg) (b : RS) : RS := fun D τ G => wi τ G fun items ok G1 => feach g b D ok items τ G1
section
variable {X : Cx}
theorem ds_for {tg iter : Expr} {body : List Stmt} {pos : Pos} {wi : RI} {g : Tg} {b : RS} (hp : PassesOwn (model X.prog X.w) X.A X.env X.xe) (hc : X.calm = true) (hi : DI X tg iter wi) (hg : DTg X tg g) (hb : DSs X body b)
    (hs : ∀ x, foldedSetIterable iter X.env x = pure x := by intro _; rfl) : DS X (.For tg iter body [] pos) (sFor wi g b) := by
  refine PS.weak (ps_for hp hc hi hg hb hs) fun E σ H ⟨τ, G, Dd, a, q, k⟩ => ?_
  refine ⟨τ, G, _, a, q, fun J H1 G1 items ok S g1 s1 it q1 => ?_⟩
  refine ⟨fun i m σ' H' => m = items.length - i ∧ i ≤ items.length ∧ ∃ τ' G', At (bkx X) σ' H' τ' G' ∧ S H' G' ∧ feach g b Dd ok (items.drop i) τ' G' ∧ Go (bkx X) H G H' G',
    ⟨_, rfl, Nat.zero_le _, τ, G1, a.go g1, s1, q1, g1⟩, ?_⟩
  rintro i m σ' H' ⟨rfl, hi, τ', G', a', s', f', g'⟩
  by_cases hlt : i < items.length
  · rw [List.drop_eq_getElem_cons hlt] at f'
    obtain ⟨o, τ2, e2, f2⟩ := f'
    refine .inr ⟨it.go i H' G' a'.r s' o hlt, fun σ2 H2 => ∃ τ2 G2, At (bkx X) σ2 H2 τ2 G2 ∧ S H2 G2 ∧ feach g b Dd ok (items.drop (i + 1)) τ2 G2 ∧ Go (bkx X) H G H2 G2,
      fun σ2 H2 n => ⟨items.length - (i + 1), by omega, rfl, hlt, n⟩, fun x H2 y => ?_⟩
    obtain ⟨id, g2⟩ := it.yld i H' G' x H2 items[i] a'.r s' o (by simp [hlt]) y
    have s2 := it.mono _ _ _ _ a'.r s' g2
    refine hg_ok (B := bkx X) (vs := g.slots) g (fun _ h => h) id (a'.go g2).s e2 fun σ3 r3 _ => ?_
    refine liftS_of ⟨r3, g2.r⟩ f2 ?_
    have again : ∀ σ4 H4 τ4 G4, Go (bkx X) H2 G' H4 G4 → RelS (bkx X).K H4 G4 σ4 τ4 → feach g b Dd ok (items.drop (i + 1)) τ4 G4 → ∃ τ2 G2, At (bkx X) σ4 H4 τ2 G2 ∧ S H4 G2 ∧ feach g b Dd ok (items.drop (i + 1)) τ2 G2 ∧ Go (bkx X) H G H4 G2 :=
      fun σ4 H4 τ4 G4 g4 r4 f4 => ⟨τ4, G4, ⟨r4, g4.r⟩, it.mono _ _ _ _ g2.r s2 g4, f4, (g'.trans g2).trans g4⟩
    exact ⟨again, fun v H4 d G4 g4 => k.rt v H4 d G4 ((g'.trans g2).trans g4), fun σ4 H4 τ4 G4 g4 => k.nx σ4 H4 τ4 G4 ((g'.trans g2).trans g4), again⟩
  · have e : i = items.length := by omega
    subst e
    rw [List.drop_length] at f'
    exact .inl ⟨it.stop _ H' G' a'.r s' f'.1 rfl, k.nx _ _ _ _ g' a'.s f'.2⟩
end
/-- a loop by what holds between its turns: pre is what it has taken -/
theorem feach_by {g : Tg} {b : RS} {E : DEnds} {ok : DG → Prop} {items : List D} {τ : DSt} {G : DG} (P : List D → DSt → DG → Prop) (h0 : P [] τ G) (hok : ∀ pre τ G, P pre τ G → ok G)
    (hs : ∀ pre d post τ G, items = pre ++ d :: post → P pre τ G → ∃ τ', g.put d τ = some τ' ∧ b { E with nx := P (pre ++ [d]), ct := P (pre ++ [d]), bk := E.nx } τ' G) (hd : ∀ τ G, P items τ G → E.nx τ G)
    (mono : ∀ (N N' : DSt → DG → Prop) τ G, (∀ τ G, N τ G → N' τ G) → b { E with nx := N, ct := N, bk := E.nx } τ G → b { E with nx := N', ct := N', bk := E.nx } τ G) : feach g b E ok items τ G := by
  have key : ∀ (post pre : List D) τ G, items = pre ++ post → P pre τ G → feach g b E ok post τ G := by
    intro post
    induction post with
    | nil =>
      intro pre τ G e p
      rw [List.append_nil] at e
      subst e
      exact ⟨hok _ _ _ p, hd _ _ p⟩
    | cons d post ih =>
      intro pre τ G e p
      obtain ⟨τ', e1, q⟩ := hs pre d post τ G e p
      refine ⟨hok _ _ _ p, τ', e1, mono _ _ _ _ (fun τ2 G2 p2 => ?_) q⟩
      exact ih (pre ++ [d]) τ2 G2 (by rw [e]; simp) p2
  exact key items [] τ G rfl h0

/-! ### while -/
def sWhile (c : RT) (b : RS) : RS := fun E τ G => ∃ W : Nat → DSt → DG → Prop, (∃ m, W m τ G) ∧ ∀ m τ G, W m τ G → c τ G fun k G1 =>
  if k = true then b { E with nx := fun τ' G' => ∃ m', m' < m ∧ W m' τ' G', ct := fun τ' G' => ∃ m', m' < m ∧ W m' τ' G', bk := E.nx } τ G1 else E.nx τ G1
section
variable {X : Cx}
theorem ds_while {c : Expr} {body : List Stmt} {pos : Pos} {tc : RT} {b : RS} (hp : PassesOwn (model X.prog X.w) X.A X.env X.xe) (hc : DT X c tc) (hb : DSs X body b) : DS X (.While c body [] pos) (sWhile tc b) := by
  refine PS.weak (ps_while hp hc hb) fun E σ H ⟨τ, G, Dd, a, q, k⟩ => ?_
  obtain ⟨W, ⟨m0, w0⟩, turn⟩ := q
  refine ⟨fun m σ' H' => ∃ τ' G', At (bkx X) σ' H' τ' G' ∧ W m τ' G' ∧ Go (bkx X) H G H' G', ⟨m0, τ, G, a, w0, .refl a.r⟩, ?_⟩
  rintro m σ' H' ⟨τ', G', a', w', g'⟩
  refine liftT_of a' (turn m τ' G' w') fun c H1 G1 g1 q1 => ?_
  cases c with
  | false => exact iteF (k.nx _ _ _ _ (g'.trans g1) (a'.go g1).s (by simpa using q1))
  | true =>
    have q1 : b { Dd with nx := fun τ' G' => ∃ m', m' < m ∧ W m' τ' G', ct := fun τ' G' => ∃ m', m' < m ∧ W m' τ' G', bk := Dd.nx } τ' G1 := by simpa using q1
    refine iteT ⟨fun σ2 H2 => ∃ m', m' < m ∧ ∃ τ' G', At (bkx X) σ2 H2 τ' G' ∧ W m' τ' G' ∧ Go (bkx X) H G H2 G', fun σ2 H2 n => n, liftS_of (a'.go g1) q1 ?_⟩
    have again : ∀ σ4 H4 τ4 G4, Go (bkx X) H1 G1 H4 G4 → RelS (bkx X).K H4 G4 σ4 τ4 → (∃ m', m' < m ∧ W m' τ4 G4) → ∃ m', m' < m ∧ ∃ τ' G', At (bkx X) σ4 H4 τ' G' ∧ W m' τ' G' ∧ Go (bkx X) H G H4 G' :=
      fun σ4 H4 τ4 G4 g4 r4 ⟨m', hm, w4⟩ => ⟨m', hm, τ4, G4, ⟨r4, g4.r⟩, w4, (g'.trans g1).trans g4⟩
    exact ⟨again, fun v H4 d G4 g4 => k.rt v H4 d G4 ((g'.trans g1).trans g4), fun σ4 H4 τ4 G4 g4 => k.nx σ4 H4 τ4 G4 ((g'.trans g1).trans g4), again⟩

/-! ### comprehensions -/
/-- the list stands at l, held, while it is made -/
def lceach (g : Tg) (tt : RT) (te : RE) (vs : List Nat) (τ : DSt) (ok : DG → Prop) (l : Addr) (Q : DG → Prop) : List D → DG → Prop
  | [], G => ok G ∧ Q G
  | d :: ds, G => ok G ∧ ∃ τ', g.put d (wipeD τ vs) = some τ' ∧ tt τ' G fun b G1 => if b = true then te τ' G1 fun x G2 => ∃ acc, G2 l = some (.lst acc) ∧ acc.length < sizeLine ∧ lceach g tt te vs τ ok l Q ds (up G2 l (.lst (acc ++ [x]))) else lceach g tt te vs τ ok l Q ds G1
/-- the list will be changed -/
def dLcM (wi : RI) (g : Tg) (tt : RT) (te : RE) (vs : List Nat) : RE := fun τ G Q => wi τ G fun items ok G1 => ∀ l, G1 l = none → lceach g tt te vs τ ok l (fun G2 => Q (.ref l) G2) items (up G1 l (.lst []))
/-- a new held list, finished at once -/
def dFin (t : RE) : RE := fun τ G Q => t τ G fun d G' => ∃ l acc, d = .ref l ∧ G' l = some (.lst acc) ∧ Q (.lst acc) (del G' l)
def DTs (X : Cx) (ifs : List Expr) (t : RT) : Prop := PTs X ifs (liftT (bkx X) t)
def dYes : RT := fun _ G Q => Q true G
theorem dts_nil : DTs X [] dYes := ⟨fun pins s σ H Q I ⟨τ, G, Qd, a, q, k⟩ => pts_nil.run pins s σ H Q I (k true H G (.refl a.r) q)⟩
theorem dts_one {c : Expr} {t : RT} (h : DT X c t) : DTs X [c] t := pts_one h
theorem wipe_wipe (us : List Nat) (σ : St) : wipe (wipe σ us) us = wipe σ us := by
  apply List.ext_getElem?
  intro j
  by_cases hj : j ∈ us
  · have key : ∀ (ws : List Nat) (ρ : St), j ∈ ws → (wipe ρ ws)[j]? = if j < ρ.length then some none else none := by
      intro ws
      induction ws with
      | nil => intro ρ h; cases h
      | cons w ws ih =>
        intro ρ h
        show ((wipe ρ ws).set w none)[j]? = _
        rw [List.getElem?_set]
        by_cases hw : w = j
        · subst hw
          rw [if_pos rfl, wipe_length]
        · rw [if_neg hw]
          rcases List.mem_cons.mp h with z | z
          · exact absurd z.symm hw
          · exact ih ρ z
    rw [key us _ hj, key us _ hj, wipe_length]
  · rw [wipe_out hj]
theorem lift_lcM {B : Bk} {wi : RI} {g : Tg} {tt : RT} {te : RE} {vs : List Nat} (hv : ∀ i ∈ g.slots, i ∈ vs) (σ : St) (H : Hp) (Q : VK) (h : liftE B (dLcM wi g tt te vs) σ H Q) : tLc (liftI B wi) (g.hg B.K) (liftT B tt) (liftE B te) vs σ H Q := by
  obtain ⟨τ, G, Qd, a, q, k⟩ := h
  refine ⟨τ, G, _, a, q, fun J H1 G1 items ok S g1 s1 it q1 L hL => ?_⟩
  have gL := new_lstM (p := L) (vs := []) (ds := []) g1.r hL .nil
  refine ⟨fun i m H' => m = items.length - i ∧ i ≤ items.length ∧ ∃ G', S H' G' ∧ lceach g tt te vs τ ok L (fun G2 => Qd (.ref L) G2) (items.drop i) G' ∧ Go B H G H' G',
    ⟨_, rfl, Nat.zero_le _, _, it.mono _ _ _ _ g1.r s1 gL, q1 L (g1.r.free hL), g1.trans gL⟩, ?_⟩
  rintro i m H' ⟨rfl, hi, G', s', f', g'⟩
  have R' := g'.r
  by_cases hlt : i < items.length
  · rw [List.drop_eq_getElem_cons hlt] at f'
    obtain ⟨o, τ2, e2, f2⟩ := f'
    refine .inr ⟨it.go i H' G' R' s' o hlt, fun H2 => ∃ G2, S H2 G2 ∧ lceach g tt te vs τ ok L (fun G2 => Qd (.ref L) G2) (items.drop (i + 1)) G2 ∧ Go B H G H2 G2,
      fun H2 n => ⟨items.length - (i + 1), by omega, rfl, hlt, n⟩, fun x H2 y => ?_⟩
    obtain ⟨id, g2⟩ := it.yld i H' G' x H2 items[i] R' s' o (by simp [hlt]) y
    have s2 := it.mono _ _ _ _ R' s' g2
    have a2 : At B (wipe σ vs) H2 (wipeD τ vs) G' := ⟨((a.go g').s.wipe vs).fr R' g2.f, g2.r⟩
    refine hg_ok (B := B) (vs := vs) g hv id a2.s e2 fun σ3 r3 w3 => ⟨Eq.trans w3 (wipe_wipe vs σ), ?_⟩
    refine liftT_of ⟨r3, g2.r⟩ f2 fun c H3 G3 g3 q3 => ?_
    cases c with
    | false => exact iteF ⟨G3, it.mono _ _ _ _ g2.r s2 g3, by simpa using q3, (g'.trans g2).trans g3⟩
    | true =>
      refine iteT (liftE_of ((⟨r3, g2.r⟩ : At B σ3 H2 τ2 G').go g3) (by simpa using q3) fun v H4 e G4 g4 i4 q4 => ?_)
      obtain ⟨acc, hA, hz, q4⟩ := q4
      obtain ⟨ws, hw, rw'⟩ := g4.r L _ hA
      have g5 := set_lst (p := L) g4.r hA (rw'.append (.cons i4 .nil))
      have g15 := ((g2.trans g3).trans g4).trans g5
      exact ⟨ws, hw, by rw [rw'.length]; exact hz, _, it.mono _ _ _ _ R' s' g15, q4, g'.trans g15⟩
  · have e : i = items.length := by omega
    subst e
    rw [List.drop_length] at f'
    exact .inl ⟨it.stop _ H' G' R' s' f'.1 rfl, k _ _ _ _ g' (.ref L) f'.2⟩
/-- what is made for itself may be finished -/
theorem fin_lst {B : Bk} {H : Hp} {G : DG} {l : Addr} {ds : List D} (R : Rep B H G) (h : G l = some (.lst ds)) : Go B H G H (del G l) ∧ IsD B.K H (del G l) (.ref l) (.lst ds) := by
  obtain ⟨vs, hv, r⟩ := R l _ h
  have less : ∀ a, G a = none → del G l a = none := fun a n => by
    unfold del
    split
    · rfl
    · exact n
  have f : Frame H G H (del G l) := Frame.less less
  refine ⟨⟨f, R.less fun a o e => ?_⟩, .lst hv del_same (r.fr R f)⟩
  unfold del at e
  split at e
  · cases e
  · exact e
theorem de_fin {e : Expr} {t : RE} (h : DE X e t) : DE X e (dFin t) := PE.weak h fun σ H Q ⟨τ, G, Qd, a, q, k⟩ => liftE_of a q fun v H1 d G1 g1 i1 ⟨l, acc, e, hl, q1⟩ => by
  subst e
  cases i1
  obtain ⟨g2, i2⟩ := fin_lst g1.r hl
  exact k _ _ _ _ (g1.trans g2) i2 q1
theorem de_lcM {elt tg iter : Expr} {ifs : List Expr} {scope : Scope} {own : List (Str × Nat)} {pos : Pos} {wi : RI} {g : Tg} {tt : RT} {te : RE} (hc : X.calm = true) (hN : X.N.Nodup) (hi : DI X tg iter wi) (ok : BlkOk X.N X.env.scope scope own)
    (hg : ∀ (s : Shared) (H : Hp) (C : Addr) (cl : List (Str × Addr)) (fp : List Addr), DTg (X.blk s H scope (compEnvC scope cl C X.env) fp) tg g) (ht : ∀ (s : Shared) (H : Hp) (C : Addr) (cl : List (Str × Addr)) (fp : List Addr), DTs (X.blk s H scope (compEnvC scope cl C X.env) fp) ifs tt)
    (he : ∀ (s : Shared) (H : Hp) (C : Addr) (cl : List (Str × Addr)) (fp : List Addr), DE (X.blk s H scope (compEnvC scope cl C X.env) fp) elt te) (hv : ∀ i ∈ g.slots, i ∈ own.map (·.2) := by decide) (hs : ∀ x, foldedSetIterable iter X.env x = pure x := by intro _; rfl) :
    DE X (.ListComp elt [⟨tg, iter, ifs, 0⟩] scope pos) (dLcM wi g tt te (own.map (·.2))) :=
  PE.weak (pe_lc (g := g.hg X.K) (tt := liftT (bkx X) tt) (te := liftE (bkx X) te) hc hN hi ok hg ht he hs) (lift_lcM (B := bkx X) hv)
/-- name = [..] -/
theorem ds_setLcM (i : Nat) {y : Str} {py : Pos} {elt tg iter : Expr} {ifs : List Expr} {scope : Scope} {own : List (Str × Nat)} {pos spos : Pos} {wi : RI} {g : Tg} {tt : RT} {te : RE} (hc : X.calm = true) (hN : X.N.Nodup)
    (hsw : swapsWith (.ListComp elt [⟨tg, iter, ifs, 0⟩] scope pos) (some (.Name y py)) spos.line X.env = pure true) (hi : DI X tg iter wi) (ok : BlkOk X.N X.env.scope scope own)
    (hg : ∀ (s : Shared) (H : Hp) (C : Addr) (cl : List (Str × Addr)) (fp : List Addr), DTg (X.blk s H scope (compEnvC scope cl C X.env) fp) tg g) (ht : ∀ (s : Shared) (H : Hp) (C : Addr) (cl : List (Str × Addr)) (fp : List Addr), DTs (X.blk s H scope (compEnvC scope cl C X.env) fp) ifs tt)
    (he : ∀ (s : Shared) (H : Hp) (C : Addr) (cl : List (Str × Addr)) (fp : List Addr), DE (X.blk s H scope (compEnvC scope cl C X.env) fp) elt te) (hv : ∀ i ∈ g.slots, i ∈ own.map (·.2) := by decide)
    (hy : X.N[i]? = some y := by rfl) (hyl : X.env.scope.names.lookup y = some .local := by rfl) (hs : ∀ x, foldedSetIterable iter X.env x = pure x := by intro _; rfl) :
    DS X (.Assign [.Name y py] (.ListComp elt [⟨tg, iter, ifs, 0⟩] scope pos) spos) (sSet i (dLcM wi g tt te (own.map (·.2)))) :=
  PS.weak (ps_setLc (g := g.hg X.K) (tt := liftT (bkx X) tt) (te := liftE (bkx X) te) hc hN hy hyl hsw hi ok hg ht he hs) fun E σ H ⟨τ, G, Dd, a, q, k⟩ =>
    lift_lcM (B := bkx X) hv σ H _ (liftE_of (t := dLcM wi g tt te (List.map (fun (x : Str × Nat) => x.2) own)) (Qd := fun d G1 => Dd.nx (τ.set i (some d)) G1) a q fun v H1 d G1 g1 i1 q1 => k.nx _ _ _ _ g1 ((a.go g1).s.set i1 i) q1)
/-- .. finished -/
theorem ds_setLc (i : Nat) {y : Str} {py : Pos} {elt tg iter : Expr} {ifs : List Expr} {scope : Scope} {own : List (Str × Nat)} {pos spos : Pos} {wi : RI} {g : Tg} {tt : RT} {te : RE} (hc : X.calm = true) (hN : X.N.Nodup)
    (hsw : swapsWith (.ListComp elt [⟨tg, iter, ifs, 0⟩] scope pos) (some (.Name y py)) spos.line X.env = pure true) (hi : DI X tg iter wi) (ok : BlkOk X.N X.env.scope scope own)
    (hg : ∀ (s : Shared) (H : Hp) (C : Addr) (cl : List (Str × Addr)) (fp : List Addr), DTg (X.blk s H scope (compEnvC scope cl C X.env) fp) tg g) (ht : ∀ (s : Shared) (H : Hp) (C : Addr) (cl : List (Str × Addr)) (fp : List Addr), DTs (X.blk s H scope (compEnvC scope cl C X.env) fp) ifs tt)
    (he : ∀ (s : Shared) (H : Hp) (C : Addr) (cl : List (Str × Addr)) (fp : List Addr), DE (X.blk s H scope (compEnvC scope cl C X.env) fp) elt te) (hv : ∀ i ∈ g.slots, i ∈ own.map (·.2) := by decide)
    (hy : X.N[i]? = some y := by rfl) (hyl : X.env.scope.names.lookup y = some .local := by rfl) (hs : ∀ x, foldedSetIterable iter X.env x = pure x := by intro _; rfl) :
    DS X (.Assign [.Name y py] (.ListComp elt [⟨tg, iter, ifs, 0⟩] scope pos) spos) (sSet i (dFin (dLcM wi g tt te (own.map (·.2))))) :=
  PS.weak (ps_setLc (g := g.hg X.K) (tt := liftT (bkx X) tt) (te := liftE (bkx X) te) hc hN hy hyl hsw hi ok hg ht he hs) fun E σ H ⟨τ, G, Dd, a, q, k⟩ =>
    lift_lcM (B := bkx X) hv σ H _ (liftE_of (t := dLcM wi g tt te (List.map (fun (x : Str × Nat) => x.2) own)) (Qd := fun d G' => ∃ l acc, d = .ref l ∧ G' l = some (.lst acc) ∧ Dd.nx (τ.set i (some (.lst acc))) (del G' l)) a q fun v H1 d G1 g1 i1 ⟨l, acc, e, hl, q1⟩ => by
      subst e
      cases i1
      obtain ⟨g2, i2⟩ := fin_lst g1.r hl
      exact k.nx _ _ _ _ (g1.trans g2) (((a.go g1).go g2).s.set i2 i) q1)

/-! ### attributes, instances -/
theorem frel_lookup {K : PySem.W.Frag} {H : Hp} {G : DG} {f : Str} : ∀ {vs : List (Str × V)} {fs : List (Str × D)}, Paired (FRel K H G) vs fs → ∀ {d : D}, fs.lookup f = some d → ∃ v, vs.lookup f = some v ∧ IsD K H G v d
  | _, _, .nil, _, e => by cases e
  | (n, v) :: vs, (m, d) :: fs, .cons h r, d', e => by
    obtain ⟨h1, h2⟩ := h
    have h1 : n = m := h1
    subst h1
    by_cases hf : (f == n) = true
    · simp only [List.lookup, hf] at e ⊢
      cases e
      exact ⟨v, rfl, h2⟩
    · have hf : (f == n) = false := by simpa using hf
      simp only [List.lookup, hf] at e ⊢
      exact frel_lookup r e
theorem frel_none {K : PySem.W.Frag} {H : Hp} {G : DG} {f : Str} : ∀ {vs : List (Str × V)} {fs : List (Str × D)}, Paired (FRel K H G) vs fs → fs.lookup f = none → vs.lookup f = none
  | _, _, .nil, _ => rfl
  | (n, v) :: vs, (m, d) :: fs, .cons h r, e => by
    obtain ⟨h1, h2⟩ := h
    have h1 : n = m := h1
    subst h1
    by_cases hf : (f == n) = true
    · simp only [List.lookup, hf] at e
      cases e
    · have hf : (f == n) = false := by simpa using hf
      simp only [List.lookup, hf] at e ⊢
      exact frel_none r e
def putD (f : Str) (v : D) : List (Str × D) → List (Str × D)
  | [] => [(f, v)]
  | (g, x) :: r => if g = f then (g, v) :: r else (g, x) :: putD f v r
theorem frel_put {K : PySem.W.Frag} {H : Hp} {G : DG} {f : Str} {v : V} {d : D} (i : IsD K H G v d) : ∀ {vs : List (Str × V)} {fs : List (Str × D)}, Paired (FRel K H G) vs fs → Paired (FRel K H G) (putF f v vs) (putD f d fs)
  | _, _, .nil => .cons ⟨rfl, i⟩ .nil
  | (n, w) :: vs, (m, e) :: fs, .cons h r => by
    obtain ⟨h1, h2⟩ := h
    have h1 : n = m := h1
    subst h1
    show Paired _ (if n = f then (n, v) :: vs else (n, w) :: putF f v vs) (if n = f then (n, d) :: fs else (n, e) :: putD f d fs)
    by_cases hf : n = f
    · rw [if_pos hf, if_pos hf]
      exact .cons ⟨rfl, i⟩ r
    · rw [if_neg hf, if_neg hf]
      exact .cons ⟨rfl, h2⟩ (frel_put i r)
theorem ins_at {B : Bk} {H : Hp} {G : DG} {p C : Addr} {fs : List (Str × D)} (R : Rep B H G) (h : G p = some (.ins C fs)) : ∃ dx vs, H p = some (.ins C dx vs) ∧ Paired (FRel B.K H G) vs fs := R p _ h
def dFld (C : Addr) (f : Str) (t : RE) : RE := fun τ G Q => t τ G fun x G1 => ∃ p fs d, x = .ref p ∧ G1 p = some (.ins C fs) ∧ fs.lookup f = some d ∧ Q d G1
theorem de_fld {C : Addr} {e : Expr} {f : Str} {pos : Pos} {t : RE} (c : Cls X.K C) (n : NoAttr X.K C f) (h : DE X e t) (hb : attributeBase e f X.env (eval e X.env) = eval e X.env := by rfl) : DE X (.Attribute e f pos) (dFld C f t) :=
  PE.weak (pe_fld h hb) fun σ H Q ⟨τ, G, Qd, a, q, k⟩ => liftE_of a q fun v H1 d G1 g1 i1 ⟨p, fs, d', e, hp, hl, q1⟩ => by
    subst e
    cases i1
    obtain ⟨dx, vs, h1, h2⟩ := ins_at g1.r hp
    obtain ⟨u, hu, iu⟩ := frel_lookup h2 hl
    exact ⟨p, C, dx, vs, u, rfl, h1, c, n, hu, k _ _ _ _ g1 iu q1⟩
def sFldSet (C : Addr) (f : Str) (to tv : RE) : RS := fun E τ G => tv τ G fun y G1 => to τ G1 fun x G2 => ∃ p fs, x = .ref p ∧ G2 p = some (.ins C fs) ∧ fs.length < 1000 ∧ E.nx τ (up G2 p (.ins C (putD f y fs)))
theorem frel_len {K : PySem.W.Frag} {H : Hp} {G : DG} {vs : List (Str × V)} {fs : List (Str × D)} (h : Paired (FRel K H G) vs fs) : vs.length = fs.length := Paired.length h
theorem ds_fld {C : Addr} {o value : Expr} {f : Str} {pos pos' : Pos} {to tv : RE} (c : Cls X.K C) (n : NoAttr X.K C f) (ho : DE X o to) (hv : DE X value tv) (hs : swapsWith value (some (.Attribute o f pos')) pos.line X.env = pure false := by rfl) :
    DS X (.Assign [.Attribute o f pos'] value pos) (sFldSet C f to tv) :=
  PS.weak (ps_fld ho hv hs) fun E σ H ⟨τ, G, Dd, a, q, k⟩ => liftE_of a q fun v H1 y G1 g1 i1 q1 => liftE_of (a.go g1) q1 fun u H2 x G2 g2 i2 ⟨p, fs, e, hp, hl, q2⟩ => by
    subst e
    cases i2
    obtain ⟨dx, vs, h1, h2⟩ := ins_at g2.r hp
    have n' : H2 p = none ∨ G2 p ≠ none := .inr (by rw [hp]; exact fun z => nomatch z)
    have f3 : Frame H2 G2 (upd H2 p (.ins C dx (putF f v vs))) (up G2 p (.ins C (putD f y fs))) := Frame.put n'
    have h3 := frel_put (f := f) (i1.fr g1.r g2.f) h2
    have g3 : Go (bkx X) H2 G2 (upd H2 p (.ins C dx (putF f v vs))) (up G2 p (.ins C (putD f y fs))) := ⟨f3, g2.r.put n' ⟨dx, _, upd_same, paired_fr h3 fun _ _ => FRel.fr g2.r f3⟩⟩
    exact ⟨p, C, dx, vs, rfl, h1, c, n, by rw [frel_len h2]; exact hl, k.nx _ _ _ _ ((g1.trans g2).trans g3) (((a.go g1).go g2).go g3).s q2⟩

/-! ### defs -/
/-- what is raised: the class -/
abbrev DX := Addr → DG → Prop
abbrev DSp := List D → DG → DQ → DX → Prop
def liftSp (B : Bk) (sp : DSp) : Sp := fun vs H Q E => ∃ ds G Qd Ed, IsDs B.K H G vs ds ∧ Rep B H G ∧ sp ds G Qd Ed ∧ (∀ v H' d G', Go B H G H' G' → IsD B.K H' G' v d → Qd d G' → Q v H') ∧ (∀ C H' G', Go B H G H' G' → Ed C G' → E (.ref C) none H')
/-- nothing is raised -/
def dx0 : DX := fun _ _ => False
/-- the def at f keeps the promise sp -/
abbrev DFn (P : Program) (w : World) (K : PySem.W.Frag) (mg : Str → Option Value) (base : Heap) (CX : CXT) (k : Nat) (f : Addr) (fd : FuncData) (ps : List Str) (sp : DSp) : Prop := FnOk P w K mg base CX k f fd ps (liftSp ⟨P, w, K⟩ sp)
def dCall (sp : DSp) (Ed : DX) (t : RA) : RE := fun τ G Q => t τ G fun ds G1 => sp ds G1 Q Ed
theorem lift_call {B : Bk} {n : Nat} {sp : DSp} {Ed : DX} {E : XK} {t : RA} (hE : ∀ C H G, Ed C G → E (.ref C) none H) (σ : St) (H : Hp) (Q : VK) (h : liftE B (dCall sp Ed t) σ H Q) : tCall (liftSp B sp) [] E (liftA B n t) σ H Q := by
  obtain ⟨τ, G, Qd, a, q, k⟩ := h
  refine liftA_of a q fun vs H1 ds G1 g1 i1 l q1 => ?_
  rw [List.append_nil]
  exact ⟨ds, G1, Qd, Ed, i1, g1.r, q1, fun v H' d G' g => k v H' d G' (g1.trans g), fun C H' G' _ e => hE C H' G' e⟩
variable {CX : CXT} {k : Nat} {f C : Addr} {fd : FuncData} {ps : List Str} {sp : DSp} {x m : Str} {p pos apos : Pos} {e o : Expr} {es : List Expr} {t : RA} {to : RE}
/-- f(e, ..), where nothing is raised -/
theorem de_call (F : DFn X.prog X.w X.K X.mg X.base CX0 k f fd ps sp) (hr : Room k X.A) (hm : X.mg x = some (.ref f)) (hk : PySem.W.keepIn X.K (.ref f) = true) (hb : Binds X.K fd ps []) (ha : DA X (e :: es) t) (hg : Gl X x := by rfl)
    (hdb : (x == ("__debug__" : Str)) = false := by decide) (he : starEach (e :: es) X.env = (false, eval e X.env) :: starEach es X.env := by rfl) (hpl : (backTo pos (starEach es X.env)).any (·.1) = false := by rfl) :
    DE X (.Call (.Name x p) (e :: es) [] pos) (dCall sp dx0 t) :=
  PE.weak (pe_call F hr hg hm hk hb .nil pass0 ha hdb he hpl) (lift_call (E := E0) fun _ _ _ h => h)
theorem de_call0 (F : DFn X.prog X.w X.K X.mg X.base CX0 k f fd ps sp) (hr : Room k X.A) (hm : X.mg x = some (.ref f)) (hk : PySem.W.keepIn X.K (.ref f) = true) (hb : Binds X.K fd ps []) (hg : Gl X x := by rfl)
    (hdb : (x == ("__debug__" : Str)) = false := by decide) : DE X (.Call (.Name x p) [] [] pos) (dCall sp dx0 daNil) :=
  PE.weak (pe_call0 F hr hg hm hk hb .nil pass0 hdb) fun σ H Q ⟨τ, G, Qd, a, q, k⟩ => by
    show liftSp _ sp ([] ++ []) H Q E0
    exact ⟨[], G, Qd, dx0, .nil, a.r, q, fun v H' d G' g => k v H' d G' g, fun C H' G' _ e => e⟩
/-- o.m(e, ..) -/
def dMeth (C : Addr) (m : Str) (sp : DSp) (Ed : DX) (to : RE) (t : RA) : RE := fun τ G Q => to τ G fun x G1 => ∃ p fs, x = .ref p ∧ G1 p = some (.ins C fs) ∧ fs.lookup m = none ∧ t τ G1 fun ds G2 => sp (.ref p :: ds) G2 Q Ed
theorem lift_meth {B : Bk} {n : Nat} {C : Addr} {m : Str} {sp : DSp} {Ed : DX} {E : XK} {to : RE} {t : RA} (hE : ∀ C H G, Ed C G → E (.ref C) none H) (σ : St) (H : Hp) (Q : VK) (h : liftE B (dMeth C m sp Ed to t) σ H Q) : tMeth C m (liftSp B sp) [] E (liftE B to) (liftA B n t) σ H Q := by
  obtain ⟨τ, G, Qd, a, q, k⟩ := h
  refine liftE_of a q fun v H1 d G1 g1 i1 ⟨p, fs, e, hp, hl, q1⟩ => ?_
  subst e
  cases i1
  obtain ⟨dx, vs, h1, h2⟩ := ins_at g1.r hp
  refine ⟨p, dx, vs, rfl, h1, frel_none h2 hl, liftA_of (a.go g1) q1 fun us H2 ds G2 g2 i2 l q2 => ?_⟩
  rw [List.append_nil]
  exact ⟨.ref p :: ds, G2, Qd, Ed, .cons (.ref p) i2, g2.r, q2, fun v H' d G' g => k v H' d G' ((g1.trans g2).trans g), fun C H' G' _ e => hE C H' G' e⟩
theorem de_meth {pl : Sem Bool} (c : Cls X.K C) (hm : Meth X.K C m f) (F : DFn X.prog X.w X.K X.mg X.base CX0 k f fd ps sp) (hr : Room k X.A) (hb : Binds X.K fd ps []) (ho : DE X o to) (ha : DA X (e :: es) t)
    (hst : starEach (e :: es) X.env = (false, eval e X.env) :: starEach es X.env := by rfl) (hpl : (backTo pos (starEach es X.env)).any (·.1) = false := by rfl)
    (ht : eval (.Call (.Attribute o m apos) (e :: es) [] pos) X.env = (do
      let ov ← eval o X.env
      standAt apos.atName
      let (f, first) ← holding [ov] (getMethod ov m pl)
      callWith pos f first (backTo pos (starEach (e :: es) X.env)) (backToKw pos (keywordEach [] X.env))) := by rfl) :
    DE X (.Call (.Attribute o m apos) (e :: es) [] pos) (dMeth C m sp dx0 to t) :=
  PE.weak (pe_meth ho c hm F hr hb .nil pass0 ha hst hpl ht) (lift_meth (E := E0) fun _ _ _ h => h)
theorem de_meth0 {pl : Sem Bool} (c : Cls X.K C) (hm : Meth X.K C m f) (F : DFn X.prog X.w X.K X.mg X.base CX0 k f fd ps sp) (hr : Room k X.A) (hb : Binds X.K fd ps []) (ho : DE X o to)
    (ht : eval (.Call (.Attribute o m apos) [] [] pos) X.env = (do
      let ov ← eval o X.env
      standAt apos.atName
      let (f, first) ← holding [ov] (getMethod ov m pl)
      callWith pos f first (backTo pos (starEach [] X.env)) (backToKw pos (keywordEach [] X.env))) := by rfl) :
    DE X (.Call (.Attribute o m apos) [] [] pos) (dMeth C m sp dx0 to daNil) :=
  PE.weak (pe_meth0 ho c hm F hr hb .nil pass0 ht) fun σ H Q ⟨τ, G, Qd, a, q, k⟩ => liftE_of a q fun v H1 d G1 g1 i1 ⟨p, fs, e, hp, hl, q1⟩ => by
    subst e
    cases i1
    obtain ⟨dx, vs, h1, h2⟩ := ins_at g1.r hp
    exact ⟨p, dx, vs, rfl, h1, frel_none h2 hl, [.ref p], G1, Qd, dx0, .cons (.ref p) .nil, g1.r, q1, fun v H' d G' g => k v H' d G' (g1.trans g), fun C H' G' _ e => e⟩
/-- C(e, ..) -/
def dMake (C : Addr) (sp : DSp) (Ed : DX) (t : RA) : RE := fun τ G Q => t τ G fun ds G1 => ∀ x, G1 x = none → sp (.ref x :: ds) (up G1 x (.ins C [])) (fun v G2 => v = .non ∧ Q (.ref x) G2) Ed
theorem make_go {B : Bk} {H : Hp} {G : DG} {x dx C : Addr} (R : Rep B H G) (nx : H x = none) (ndx : H dx = none) (ne : dx ≠ x) : Go B H G (upd (upd H dx (.own x)) x (.ins C dx [])) (up G x (.ins C [])) := by
  have f1 : Frame H G (upd H dx (.own x)) G := Frame.new ndx
  have r1 : Rep B (upd H dx (.own x)) G := R.new ndx
  have nx' : (upd H dx (.own x)) x = none := by rw [upd_ne (Ne.symm ne)]; exact nx
  have f2 : Frame (upd H dx (.own x)) G (upd (upd H dx (.own x)) x (.ins C dx [])) (up G x (.ins C [])) := Frame.put (.inl nx')
  exact ⟨f1.trans f2, r1.put (.inl nx') ⟨dx, [], upd_same, .nil⟩⟩
theorem lift_make {B : Bk} {n : Nat} {C : Addr} {sp : DSp} {Ed : DX} {E : XK} {t : RA} (hE : ∀ C H G, Ed C G → E (.ref C) none H) (σ : St) (H : Hp) (Q : VK) (h : liftE B (dMake C sp Ed t) σ H Q) : tMake C (liftSp B sp) [] E (liftA B n t) σ H Q := by
  obtain ⟨τ, G, Qd, a, q, k⟩ := h
  refine liftA_of a q fun vs H1 ds G1 g1 i1 l q1 x dx nx ndx ne => ?_
  rw [List.append_nil]
  have g2 := make_go (C := C) g1.r nx ndx ne
  exact ⟨.ref x :: ds, _, _, Ed, .cons (.ref x) (i1.fr g1.r g2.f), g2.r, q1 x (g1.r.free nx), fun v H' d G' g i ⟨e, q3⟩ => by
    subst e
    cases i
    exact ⟨rfl, k _ _ _ _ ((g1.trans g2).trans g) (.ref x) q3⟩, fun C H' G' _ e => hE C H' G' e⟩
theorem de_make (M : Mk X.K C f) (F : DFn X.prog X.w X.K X.mg X.base CX0 k f fd ps sp) (hr : Room (k + 1) X.A) (hm : X.mg x = some (.ref C)) (hb : Binds X.K fd ps []) (ha : DA X (e :: es) t) (hg : Gl X x := by rfl)
    (hdb : (x == ("__debug__" : Str)) = false := by decide) (he : starEach (e :: es) X.env = (false, eval e X.env) :: starEach es X.env := by rfl) (hpl : (backTo pos (starEach es X.env)).any (·.1) = false := by rfl) :
    DE X (.Call (.Name x p) (e :: es) [] pos) (dMake C sp dx0 t) :=
  PE.weak (pe_make M F hr hg hm hb .nil pass0 ha hdb he hpl) (lift_make (E := E0) fun _ _ _ h => h)
theorem de_make0 (M : Mk X.K C f) (F : DFn X.prog X.w X.K X.mg X.base CX0 k f fd ps sp) (hr : Room (k + 1) X.A) (hm : X.mg x = some (.ref C)) (hb : Binds X.K fd ps []) (hg : Gl X x := by rfl)
    (hdb : (x == ("__debug__" : Str)) = false := by decide) : DE X (.Call (.Name x p) [] [] pos) (dMake C sp dx0 daNil) :=
  PE.weak (pe_make0 M F hr hg hm hb .nil pass0 hdb) fun σ H Q ⟨τ, G, Qd, a, q, k⟩ x dx nx ndx ne => by
    have g2 := make_go (C := C) a.r nx ndx ne
    exact ⟨[.ref x], _, _, dx0, .cons (.ref x) .nil, g2.r, q x (a.r.free nx), fun v H' d G' g i ⟨e, q3⟩ => by
      subst e
      cases i
      exact ⟨rfl, k _ _ _ _ (g2.trans g) (.ref x) q3⟩, fun C H' G' _ e => e⟩
end

/-! ### a def's body -/
/-- another view of a result: finished lists, less that is held -/
def Turn (G : DG) (d : D) (G' : DG) (d' : D) : Prop := ∀ (B : Bk) (H : Hp) (v : V), Rep B H G → IsD B.K H G v d → Go B H G H G' ∧ IsD B.K H G' v d'
def cl (Q : DQ) : DQ := fun d G => ∃ d' G', Turn G d G' d' ∧ Q d' G'
theorem Turn.refl (G : DG) (d : D) : Turn G d G d := fun B H v R i => ⟨.refl R, i⟩
theorem Turn.trans {G G1 G2 : DG} {d d1 d2 : D} (a : Turn G d G1 d1) (b : Turn G1 d1 G2 d2) : Turn G d G2 d2 := fun B H v R i =>
  let ⟨g, i1⟩ := a B H v R i
  let ⟨g2, i2⟩ := b B H v g.r i1
  ⟨g.trans g2, i2⟩
theorem Turn.less {G G' : DG} {d : D} (h : ∀ a o, G' a = some o → G a = some o) : Turn G d G' d := fun B H v R i => by
  have f : Frame H G H G' := Frame.less fun a n => by
    cases q : G' a with
    | none => rfl
    | some o => rw [h a o q] at n; cases n
  exact ⟨⟨f, R.less h⟩, i.fr R f⟩
theorem Turn.fin {G : DG} {l : Addr} {ds : List D} (h : G l = some (.lst ds)) : Turn G (.ref l) (del G l) (.lst ds) := fun B H v R i => by
  cases i
  exact fin_lst R h
theorem cl_of {Q : DQ} {d : D} {G : DG} (h : Q d G) : cl Q d G := ⟨d, G, .refl G d, h⟩
theorem cl_less {Q : DQ} {d : D} {G G' : DG} (h : ∀ a o, G' a = some o → G a = some o) (q : Q d G') : cl Q d G := ⟨d, G', .less h, q⟩
theorem cl_fin {Q : DQ} {l : Addr} {ds : List D} {G G' : DG} (hl : G l = some (.lst ds)) (n : G' l = none) (h : ∀ a o, G' a = some o → G a = some o) (q : Q (.lst ds) G') : cl Q (.ref l) G :=
  ⟨_, G', (Turn.fin hl).trans (.less fun a o e => by
    have ne : a ≠ l := by rintro rfl; rw [n] at e; cases e
    rw [del_ne ne]
    exact h a o e), q⟩
def startD (n : Nat) (ds : List D) : DSt := ds.map some ++ List.replicate (n - ds.length) none
section
variable {P : Program} {w : World} {K : PySem.W.Frag} {mg : Str → Option Value} {base : Heap}
/-- THE RULE for a def that raises nothing: the derivation of its body's reading, and that the reading keeps the promise -/
theorem fn_ok {x qual : Str} {st : Stmt} {f : Addr} {fd : FuncData} {N ps : List Str} {k : Nat} {sp : DSp} {R : RS} (F : Fun K x qual st f fd) (S : FnScope N ps (defScope st))
    (der : ∀ (cdv : Value) (A : Around) (outer : List Env) (s : Shared) (H : Hp) (E : XK), Room k (A.deeper (PyProof.Rows.envOfC qual (defScope st) s.heap.objs.size f cdv)) →
      DSs (cxOf CX0 P w K mg base N qual (defScope st) f cdv A outer s H E).nox (defBody st) R)
    (len : ∀ ds G Q E, sp ds G Q E → ds.length = ps.length)
    (body : ∀ ds G Q E, sp ds G Q E → R { nx := fun _ G' => cl Q .non G', rt := cl Q } (startD N.length ds) G) : DFn P w K mg base CX0 (k + 1) f fd ps sp := by
  refine F.ok S (fun vs H Q E h => ?_) (fun cdv A outer s H vs Q E hr h => ?_)
  · obtain ⟨ds, G, Qd, Ed, i, _, q, _⟩ := h
    rw [i.length]
    exact len _ _ _ _ q
  · obtain ⟨ds, G, Qd, Ed, i, r, q, kr, _⟩ := h
    refine ⟨_, der cdv A outer s H E hr, ?_⟩
    have hs : RelS K H G (start N vs) (startD N.length ds) := RelS.start i
    have back : ∀ v H' d G', Go ⟨P, w, K⟩ H G H' G' → IsD K H' G' v d → cl Qd d G' → Q v H' := fun v H' d G' g i' ⟨d2, G2, t, q2⟩ => by
      obtain ⟨g2, i2⟩ := t ⟨P, w, K⟩ H' v g.r i'
      exact kr v H' d2 G2 (g.trans g2) i2 q2
    exact liftS_of ⟨hs, r⟩ (body _ _ _ _ q) ⟨fun σ' H' τ' G' g _ q => back .non H' .non G' g .non q, back, fun _ _ _ _ _ _ h => h.elim, fun _ _ _ _ _ _ h => h.elim⟩
end
end QF
/-! QD: over data: subscripts, built-ins, methods of built-in types. -/
namespace QF
open PySem L2
section
variable {X : Cx}

/-! ### subscripts -/
theorem atI_ds {K : PySem.W.Frag} {H : Hp} {G : DG} {vs : List V} {ds : List D} {i : Int} {d : D} (h : IsDs K H G vs ds) (e : atI ds i = some d) : ∃ v, atI vs i = some v ∧ IsD K H G v d := by
  unfold atI at e ⊢
  rw [h.length]
  cases q : ixN ds.length i with
  | none => rw [q] at e; cases e
  | some j =>
    rw [q] at e
    exact h.get (i := j) e
def iIx : DR2 := fun x y G Q => ∃ i, y = .int i ∧ ((∃ ds d, vS G x = some ds ∧ atI ds i = some d ∧ Q d G) ∨ (∃ ds d, x = .tup ds ∧ atI ds i = some d ∧ Q d G) ∨ (∃ z c, x = .str z ∧ z.length ≤ sizeLine ∧ atI z.cps.toList i = some c ∧ Q (.str ⟨#[c]⟩) G))
theorem de_ix {a b : Expr} {pos : Pos} {ta tb : RE} (ha : DE X a ta) (hb : DE X b tb) (hs : PlainIx b := by exact fun _ _ => rfl) : DE X (.Subscript a b pos) (dOp iIx ta tb) :=
  PE.weak (pe_ix ix_seq ha hb hs) (lift_op (B := bkx X) fun H G v u x y Qd Q R i j ⟨n, e, q⟩ k => by
    subst e
    cases j
    rcases q with ⟨ds, d, h1, h2, q⟩ | ⟨ds, d, h1, h2, q⟩ | ⟨z, c, h1, h2, h3, q⟩
    · obtain ⟨p, vs, rfl, hp, r⟩ := vS_at R i h1
      obtain ⟨w, hw, iw⟩ := atI_ds r h2
      exact .inl ⟨p, vs, n, w, rfl, rfl, hp, hw, k _ _ _ _ (.refl R) iw q⟩
    · subst h1
      obtain ⟨p, vs, rfl, hp, r⟩ := tup_at i
      obtain ⟨w, hw, iw⟩ := atI_ds r h2
      exact .inr (.inl ⟨p, vs, n, w, rfl, rfl, hp, hw, k _ _ _ _ (.refl R) iw q⟩)
    · subst h1
      cases i
      exact .inr (.inr ⟨z, n, c, rfl, rfl, h2, h3, k _ _ _ _ (.refl R) (.str _) q⟩))
/-- xs[i] = v, a held list -/
def sIxSet (to ti tv : RE) : RS := fun E τ G => tv τ G fun v G1 => to τ G1 fun x G2 => ti τ G2 fun y G3 => ∃ p ds i j, x = .ref p ∧ y = .int i ∧ G3 p = some (.lst ds) ∧ ixN ds.length i = some j ∧ E.nx τ (up G3 p (.lst (ds.set j v)))
theorem ds_ixset {o i e : Expr} {pos tpos : Pos} {to ti tv : RE} (ho : DE X o to) (hi : DE X i ti) (he : DE X e tv) (hs : swapsWithSole [.Subscript o i tpos] e pos.line X.env = pure false := by rfl) (hw : swappedStores [.Subscript o i tpos] e X.env = pure none := by rfl)
    (h1 : (assignEach [.Subscript o i tpos] X.env).map (·.2) = [assign (.Subscript o i tpos) X.env] := by rfl)
    (ha : ∀ v, assign (.Subscript o i tpos) X.env v = (do
      let ov ← holding [v] (eval o X.env)
      let iv ← holding [v, ov] (eval i X.env)
      standAt tpos
      holding [v, ov, iv] (setItem ov iv v)
      release [v, ov, iv] []) := by intro _; rfl) : DS X (.Assign [.Subscript o i tpos] e pos) (sIxSet to ti tv) :=
  PS.weak (ps_asg he (pg_sub ho hi set_list ha) hs hw h1) fun E σ H ⟨τ, G, Dd, a, q, k⟩ => liftE_of a q fun v H1 d G1 g1 i1 q1 => liftE_of (a.go g1) q1 fun u H2 x G2 g2 i2 q2 => liftE_of ((a.go g1).go g2) q2 fun w H3 y G3 g3 i3 ⟨p, ds, n, j, ex, ey, hp, hj, q3⟩ => by
    subst ex; subst ey
    cases i2
    cases i3
    obtain ⟨vs, hv, r⟩ := g3.r p _ hp
    have i1' := (i1.fr g1.r g2.f).fr g2.r g3.f
    have g4 := set_lst (p := p) g3.r hp (r.set i1' j)
    exact ⟨p, vs, n, j, rfl, rfl, hv, by rw [r.length]; exact hj, k.nx _ _ _ _ (((g1.trans g2).trans g3).trans g4) ((((a.go g1).go g2).go g3).go g4).s q3⟩
/-! slices: step 1 -/
abbrev RO := DSt → DG → (Option Int → DG → Prop) → Prop
def liftO (B : Bk) (t : RO) : TO := fun σ H Q => ∃ τ G Qd, At B σ H τ G ∧ t τ G Qd ∧ ∀ o H' G', Go B H G H' G' → Qd o G' → Q o H'
def DO' (X : Cx) (e : Option Expr) (t : RO) : Prop := PO X e (liftO (bkx X) t)
def oNone : RO := fun _ G Q => Q none G
def oSome (t : RE) : RO := fun τ G Q => t τ G fun x G1 => ∃ i, x = .int i ∧ Q (some i) G1
theorem PO.weak {e : Option Expr} {t t' : TO} (h : PO X e t) (w : ∀ σ H Q, t' σ H Q → t σ H Q) : PO X e t' := by
  constructor
  intro pins s σ H Q I q
  exact h.run pins s σ H Q I (w _ _ _ q)
theorem liftO_of {B : Bk} {t : RO} {σ : St} {H : Hp} {τ : DSt} {G : DG} {Q : Option Int → Hp → Prop} {Qd : Option Int → DG → Prop} (a : At B σ H τ G) (h : t τ G Qd) (k : ∀ o H' G', Go B H G H' G' → Qd o G' → Q o H') : liftO B t σ H Q := ⟨τ, G, Qd, a, h, k⟩
theorem do_none : DO' X none oNone := PO.weak po_none fun σ H Q ⟨τ, G, Qd, a, q, k⟩ => k none H G (.refl a.r) q
theorem do_some {e : Expr} {t : RE} (h : DE X e t) : DO' X (some e) (oSome t) := PO.weak (po_some h) fun σ H Q ⟨τ, G, Qd, a, q, k⟩ => liftE_of a q fun v H1 d G1 g1 i1 ⟨i, e, q1⟩ => by
  subst e
  cases i1
  exact ⟨i, rfl, k _ _ _ g1 q1⟩
def cutD (ds : List D) (lo hi : Option Int) : List D := (ds.drop (HT.sIx ds.length 0 lo)).take (HT.sIx ds.length ds.length hi - HT.sIx ds.length 0 lo)
theorem cut_ds {K : PySem.W.Frag} {H : Hp} {G : DG} {vs : List V} {ds : List D} (h : IsDs K H G vs ds) (lo hi : Option Int) : IsDs K H G (cutV vs lo hi) (cutD ds lo hi) := by
  unfold cutV cutD
  rw [h.length]
  exact (h.drop _).take _
/-- a list's slice, finished -/
def dSlice (te : RE) (tl th : RO) : RE := fun τ G Q => te τ G fun x G1 => tl τ G1 fun lo G2 => th τ G2 fun hi G3 => ∃ ds, vS G3 x = some ds ∧ Q (.lst (cutD ds lo hi)) G3
theorem de_slice {e : Expr} {lo hi : Option Expr} {p2 pos : Pos} {te : RE} {tl th : RO} (he : DE X e te) (hl : DO' X lo tl) (hu : DO' X hi th) : DE X (.Subscript e (.Slice lo hi none p2) pos) (dSlice te tl th) :=
  PE.weak (pe_slice sl_list he hl hu) fun σ H Q ⟨τ, G, Qd, a, q, k⟩ => liftE_of a q fun v H1 x G1 g1 i1 q1 => liftO_of (a.go g1) q1 fun l H2 G2 g2 q2 => liftO_of ((a.go g1).go g2) q2 fun h H3 G3 g3 ⟨ds, e, q3⟩ => by
    obtain ⟨p, vs, rfl, hp, r⟩ := vS_at g3.r ((i1.fr g1.r g2.f).fr g2.r g3.f) e
    refine ⟨p, vs, rfl, hp, fun n hn => ?_⟩
    obtain ⟨g4, i4⟩ := new_lst g3.r hn (cut_ds r l h)
    exact k _ _ _ _ (((g1.trans g2).trans g3).trans g4) i4 q3
/-- .. to be changed -/
def dSliceM (te : RE) (tl th : RO) : RE := fun τ G Q => te τ G fun x G1 => tl τ G1 fun lo G2 => th τ G2 fun hi G3 => ∃ ds, vS G3 x = some ds ∧ ∀ l, G3 l = none → Q (.ref l) (up G3 l (.lst (cutD ds lo hi)))
theorem de_sliceM {e : Expr} {lo hi : Option Expr} {p2 pos : Pos} {te : RE} {tl th : RO} (he : DE X e te) (hl : DO' X lo tl) (hu : DO' X hi th) : DE X (.Subscript e (.Slice lo hi none p2) pos) (dSliceM te tl th) :=
  PE.weak (pe_slice sl_list he hl hu) fun σ H Q ⟨τ, G, Qd, a, q, k⟩ => liftE_of a q fun v H1 x G1 g1 i1 q1 => liftO_of (a.go g1) q1 fun l H2 G2 g2 q2 => liftO_of ((a.go g1).go g2) q2 fun h H3 G3 g3 ⟨ds, e, q3⟩ => by
    obtain ⟨p, vs, rfl, hp, r⟩ := vS_at g3.r ((i1.fr g1.r g2.f).fr g2.r g3.f) e
    refine ⟨p, vs, rfl, hp, fun n hn => ?_⟩
    exact k _ _ _ _ (((g1.trans g2).trans g3).trans (new_lstM g3.r hn (cut_ds r l h))) (.ref n) (q3 n (g3.r.free hn))
/-- a text's slice (any) -/
def dSliceS (te : RE) (tl th : RO) : RE := fun τ G Q => te τ G fun x G1 => tl τ G1 fun lo G2 => th τ G2 fun hi G3 => ∃ z, x = .str z ∧ z.length ≤ sizeLine ∧ Q (.str (cutS z lo hi)) G3
theorem de_sliceS {e : Expr} {lo hi : Option Expr} {p2 pos : Pos} {te : RE} {tl th : RO} (he : DE X e te) (hl : DO' X lo tl) (hu : DO' X hi th) : DE X (.Subscript e (.Slice lo hi none p2) pos) (dSliceS te tl th) :=
  PE.weak (pe_slice sl_str he hl hu) fun σ H Q ⟨τ, G, Qd, a, q, k⟩ => liftE_of a q fun v H1 x G1 g1 i1 q1 => liftO_of (a.go g1) q1 fun l H2 G2 g2 q2 => liftO_of ((a.go g1).go g2) q2 fun h H3 G3 g3 ⟨z, e, c, q3⟩ => by
    subst e
    cases i1
    exact ⟨z, rfl, c, k _ _ _ _ ((g1.trans g2).trans g3) (.str _) q3⟩

/-! ### built-ins by their names -/
def AnsN (B : Bk) (r0 : List V → Hp → VK → Prop) (r : DRN) : Prop := ∀ (H : Hp) (G : DG) (vs : List V) (ds : List D) (Qd : DQ) (Q : VK), Rep B H G → IsDs B.K H G vs ds → r ds G Qd →
  (∀ v' H' d G', Go B H G H' G' → IsD B.K H' G' v' d → Qd d G' → Q v' H') → r0 vs H Q
structure DCB (X : Cx) (f : Value) (r : DRN) : Prop where
  ex : ∃ r0, CallR X f r0 ∧ AnsN (bkx X) r0 r
theorem DCB.or {f : Value} {r r' : DRN} (h : DCB X f r) (h' : DCB X f r') : DCB X f (fun ds G Q => r ds G Q ∨ r' ds G Q) := by
  obtain ⟨r0, o, a⟩ := h
  obtain ⟨r0', o', a'⟩ := h'
  refine ⟨_, CallR.or o o', fun H G vs ds Qd Q R i q k => ?_⟩
  rcases q with q | q
  · exact .inl (a H G vs ds Qd Q R i q k)
  · exact .inr (a' H G vs ds Qd Q R i q k)
def dCB (r : DRN) (t : RA) : RE := fun τ G Q => t τ G fun ds G1 => r ds G1 Q
theorem lift_cb {B : Bk} {n : Nat} {r0 : List V → Hp → VK → Prop} {r : DRN} (an : AnsN B r0 r) {t : RA} (σ : St) (H : Hp) (Q : VK) (h : liftE B (dCB r t) σ H Q) : tCB r0 (liftA B n t) σ H Q := by
  obtain ⟨τ, G, Qd, a, q, k⟩ := h
  exact liftA_of a q fun vs H1 ds G1 g1 i1 l q1 => an H1 G1 vs ds Qd Q g1.r i1 q1 fun v' H' d' G' g => k v' H' d' G' (g1.trans g)
theorem de_callB {x : Str} {p pos : Pos} {e : Expr} {es : List Expr} {t : RA} {id : String} {r : DRN} (hc : DCB X (.builtin id) r) (hm : X.mg x = none) (hv : bootBuiltins x = some (.builtin id)) (ha : DA X (e :: es) t) (hg : Gl X x := by rfl) (hn : x ≠ "__name__" := by decide) (hdb : (x == ("__debug__" : Str)) = false := by decide)
    (he : starEach (e :: es) X.env = (false, eval e X.env) :: starEach es X.env := by rfl) (hpl : (backTo pos (starEach es X.env)).any (·.1) = false := by rfl) : DE X (.Call (.Name x p) (e :: es) [] pos) (dCB r t) := by
  obtain ⟨r0, o, an⟩ := hc
  exact PE.weak (pe_callB o hg hm hv ha hn hdb he hpl) (lift_cb an)
theorem de_callTy {x : Str} {p pos : Pos} {e : Expr} {es : List Expr} {t : RA} {T : String} {r : DRN} (hc : DCB X (.type T) r) (hm : X.mg x = none) (hv : bootBuiltins x = some (.type T)) (ha : DA X (e :: es) t) (hg : Gl X x := by rfl) (hn : x ≠ "__name__" := by decide) (hdb : (x == ("__debug__" : Str)) = false := by decide)
    (he : starEach (e :: es) X.env = (false, eval e X.env) :: starEach es X.env := by rfl) (hpl : (backTo pos (starEach es X.env)).any (·.1) = false := by rfl) : DE X (.Call (.Name x p) (e :: es) [] pos) (dCB r t) := by
  obtain ⟨r0, o, an⟩ := hc
  exact PE.weak (pe_callTy o hg hm hv ha hn hdb he hpl) (lift_cb an)
/-- the one argument -/
theorem isds1 {K : PySem.W.Frag} {H : Hp} {G : DG} {vs : List V} {d : D} (i : IsDs K H G vs [d]) : ∃ v, vs = [v] ∧ IsD K H G v d := by
  cases i with
  | cons a r => cases r; exact ⟨_, rfl, a⟩
theorem isds2 {K : PySem.W.Frag} {H : Hp} {G : DG} {vs : List V} {d e : D} (i : IsDs K H G vs [d, e]) : ∃ v u, vs = [v, u] ∧ IsD K H G v d ∧ IsD K H G u e := by
  cases i with
  | cons a r =>
    cases r with
    | cons b r => cases r; exact ⟨_, _, rfl, a, b⟩
/-- len of a list, a tuple, a text -/
def iLen : DRN := fun xs G Q => ∃ x, xs = [x] ∧ ((∃ ds, vS G x = some ds ∧ Q (.int ds.length) G) ∨ (∃ ds, x = .tup ds ∧ Q (.int ds.length) G) ∨ (∃ z, x = .str z ∧ z.length ≤ sizeLine ∧ Q (.int z.length) G))
theorem cb_len : DCB X (.builtin "len") iLen :=
  ⟨_, call_len, fun H G vs ds Qd Q R i ⟨x, e, q⟩ k => by
    subst e
    obtain ⟨v, rfl, iv⟩ := isds1 i
    rcases q with ⟨ds, h1, q⟩ | ⟨ds, h1, q⟩ | ⟨z, h1, h2, q⟩
    · obtain ⟨p, vs, rfl, hp, r⟩ := vS_at R iv h1
      exact ⟨_, _, rfl, .inl ⟨vs, hp, r.length.symm⟩, k _ _ _ _ (.refl R) (.int _) q⟩
    · subst h1
      obtain ⟨p, vs, rfl, hp, r⟩ := tup_at iv
      exact ⟨_, _, rfl, .inr ⟨vs, hp, r.length.symm⟩, k _ _ _ _ (.refl R) (.int _) q⟩
    · subst h1
      cases iv
      exact ⟨_, _, rfl, ⟨h2, rfl⟩, k _ _ _ _ (.refl R) (.int _) q⟩⟩
theorem cb_abs : DCB X (.builtin "abs") (fun xs G Q => ∃ i, xs = [.int i] ∧ Q (.int (if i < 0 then -i else i)) G) :=
  ⟨_, call_abs, fun H G vs ds Qd Q R i ⟨n, e, q⟩ k => by
    subst e
    obtain ⟨v, rfl, iv⟩ := isds1 i
    cases iv
    exact ⟨n, rfl, k _ _ _ _ (.refl R) (.int _) q⟩⟩
theorem cb_max2 (hc : X.calm = true) : DCB X (.builtin "max") (fun xs G Q => ∃ i j, xs = [.int i, .int j] ∧ Q (.int (max i j)) G) :=
  ⟨_, call_max2 hc, fun H G vs ds Qd Q R i ⟨n, m, e, q⟩ k => by
    subst e
    obtain ⟨v, u, rfl, iv, iu⟩ := isds2 i
    cases iv; cases iu
    refine ⟨n, m, rfl, k _ _ _ _ (.refl R) (.int _) ?_⟩
    have : (if m > n then m else n) = max n m := by split <;> omega
    rw [this]; exact q⟩
theorem cb_min2 (hc : X.calm = true) : DCB X (.builtin "min") (fun xs G Q => ∃ i j, xs = [.int i, .int j] ∧ Q (.int (min i j)) G) :=
  ⟨_, call_min2 hc, fun H G vs ds Qd Q R i ⟨n, m, e, q⟩ k => by
    subst e
    obtain ⟨v, u, rfl, iv, iu⟩ := isds2 i
    cases iv; cases iu
    refine ⟨n, m, rfl, k _ _ _ _ (.refl R) (.int _) ?_⟩
    have : (if m < n then m else n) = min n m := by split <;> omega
    rw [this]; exact q⟩
theorem cb_int : DCB X (.type "int") (fun xs G Q => (∃ i, xs = [.int i] ∧ Q (.int i) G) ∨ (∃ k, xs = [.bl k] ∧ Q (.int (if k = true then 1 else 0)) G)) :=
  ⟨_, call_int1, fun H G vs ds Qd Q R i q k => by
    rcases q with ⟨n, e, q⟩ | ⟨b, e, q⟩
    · subst e
      obtain ⟨v, rfl, iv⟩ := isds1 i
      cases iv
      exact .inl ⟨n, rfl, k _ _ _ _ (.refl R) (.int _) q⟩
    · subst e
      obtain ⟨v, rfl, iv⟩ := isds1 i
      cases iv
      exact .inr ⟨b, rfl, k _ _ _ _ (.refl R) (.int _) q⟩⟩
theorem ints_vs {K : PySem.W.Frag} {H : Hp} {G : DG} : ∀ {ns : List Int} {vs : List V}, IsDs K H G vs (ns.map D.int) → vs = ns.map V.int
  | [], _, i => by cases i; rfl
  | n :: ns, _, i => by
    cases i with
    | cons a r => cases a; rw [ints_vs (ns := ns) r]; rfl
theorem bls_vs {K : PySem.W.Frag} {H : Hp} {G : DG} : ∀ {ns : List Bool} {vs : List V}, IsDs K H G vs (ns.map D.bl) → vs = ns.map V.bl
  | [], _, i => by cases i; rfl
  | n :: ns, _, i => by
    cases i with
    | cons a r => cases a; rw [bls_vs (ns := ns) r]; rfl
theorem ints_ds {K : PySem.W.Frag} {H : Hp} {G : DG} : ∀ (ns : List Int), IsDs K H G (ns.map V.int) (ns.map D.int)
  | [] => .nil
  | n :: ns => .cons (.int n) (ints_ds ns)
theorem cb_sum (hc : X.calm = true) : DCB X (.builtin "sum") (fun xs G Q => ∃ (x : D) (ns : List Int), xs = [x] ∧ vS G x = some (ns.map D.int) ∧ Q (.int ns.sum) G) :=
  ⟨_, cr_sum hc, fun H G vs ds Qd Q R i ⟨x, ns, e, h, q⟩ k => by
    subst e
    obtain ⟨v, rfl, iv⟩ := isds1 i
    obtain ⟨p, us, rfl, hp, r⟩ := vS_at R iv h
    rw [ints_vs r] at hp
    exact ⟨p, ns, rfl, hp, k _ _ _ _ (.refl R) (.int _) q⟩⟩
theorem cb_max (hc : X.calm = true) : DCB X (.builtin "max") (fun xs G Q => ∃ (x : D) (ns : List Int), xs = [x] ∧ vS G x = some (ns.map D.int) ∧ 0 < ns.length ∧ ∀ m, m ∈ ns → (∀ y, y ∈ ns → y ≤ m) → Q (.int m) G) :=
  ⟨_, cr_max hc, fun H G vs ds Qd Q R i ⟨x, ns, e, h, h0, q⟩ k => by
    subst e
    obtain ⟨v, rfl, iv⟩ := isds1 i
    obtain ⟨p, us, rfl, hp, r⟩ := vS_at R iv h
    rw [ints_vs r] at hp
    exact ⟨p, ns, rfl, hp, h0, fun m h1 h2 => k _ _ _ _ (.refl R) (.int _) (q m h1 h2)⟩⟩
theorem cb_min (hc : X.calm = true) : DCB X (.builtin "min") (fun xs G Q => ∃ (x : D) (ns : List Int), xs = [x] ∧ vS G x = some (ns.map D.int) ∧ 0 < ns.length ∧ ∀ m, m ∈ ns → (∀ y, y ∈ ns → m ≤ y) → Q (.int m) G) :=
  ⟨_, cr_min hc, fun H G vs ds Qd Q R i ⟨x, ns, e, h, h0, q⟩ k => by
    subst e
    obtain ⟨v, rfl, iv⟩ := isds1 i
    obtain ⟨p, us, rfl, hp, r⟩ := vS_at R iv h
    rw [ints_vs r] at hp
    exact ⟨p, ns, rfl, hp, h0, fun m h1 h2 => k _ _ _ _ (.refl R) (.int _) (q m h1 h2)⟩⟩
theorem cb_all (hc : X.calm = true) : DCB X (.builtin "all") (fun xs G Q => ∃ (x : D) (bs : List Bool), xs = [x] ∧ vS G x = some (bs.map D.bl) ∧ Q (.bl (bs.all id)) G) :=
  ⟨_, cr_all hc, fun H G vs ds Qd Q R i ⟨x, ns, e, h, q⟩ k => by
    subst e
    obtain ⟨v, rfl, iv⟩ := isds1 i
    obtain ⟨p, us, rfl, hp, r⟩ := vS_at R iv h
    rw [bls_vs r] at hp
    exact ⟨p, ns, rfl, hp, k _ _ _ _ (.refl R) (.bl _) q⟩⟩
theorem cb_any (hc : X.calm = true) : DCB X (.builtin "any") (fun xs G Q => ∃ (x : D) (bs : List Bool), xs = [x] ∧ vS G x = some (bs.map D.bl) ∧ Q (.bl (bs.any id)) G) :=
  ⟨_, cr_any hc, fun H G vs ds Qd Q R i ⟨x, ns, e, h, q⟩ k => by
    subst e
    obtain ⟨v, rfl, iv⟩ := isds1 i
    obtain ⟨p, us, rfl, hp, r⟩ := vS_at R iv h
    rw [bls_vs r] at hp
    exact ⟨p, ns, rfl, hp, k _ _ _ _ (.refl R) (.bl _) q⟩⟩
/-- tuple(a list); tuple(a tuple) -/
theorem cb_tuple : DCB X (.type "tuple") (fun xs G Q => ∃ x, xs = [x] ∧ ((∃ ds, vS G x = some ds ∧ Q (.tup ds) G) ∨ (∃ ds, x = .tup ds ∧ Q (.tup ds) G))) :=
  ⟨_, call_tuple_of, fun H G vs ds Qd Q R i ⟨x, e, q⟩ k => by
    subst e
    obtain ⟨v, rfl, iv⟩ := isds1 i
    rcases q with ⟨ds, h, q⟩ | ⟨ds, h, q⟩
    · obtain ⟨p, us, rfl, hp, r⟩ := vS_at R iv h
      exact ⟨p, us, rfl, .inl ⟨hp, fun l hl => by
        obtain ⟨g, z⟩ := new_tup R hl r
        exact k _ _ _ _ g z q⟩⟩
    · subst h
      obtain ⟨p, us, rfl, hp, r⟩ := tup_at iv
      exact ⟨p, us, rfl, .inr ⟨hp, k _ _ _ _ (.refl R) iv q⟩⟩⟩
/-- list(a list), list(a tuple): finished -/
theorem cb_list : DCB X (.type "list") (fun xs G Q => ∃ x ds, xs = [x] ∧ (vS G x = some ds ∨ x = .tup ds) ∧ Q (.lst ds) G) :=
  ⟨_, call_list_of, fun H G vs ds Qd Q R i ⟨x, ds', e, h, q⟩ k => by
    subst e
    obtain ⟨v, rfl, iv⟩ := isds1 i
    rcases h with h | h
    · obtain ⟨p, us, rfl, hp, r⟩ := vS_at R iv h
      exact ⟨p, us, rfl, .inl hp, fun l hl => by
        obtain ⟨g, z⟩ := new_lst R hl r
        exact k _ _ _ _ g z q⟩
    · subst h
      obtain ⟨p, us, rfl, hp, r⟩ := tup_at iv
      exact ⟨p, us, rfl, .inr hp, fun l hl => by
        obtain ⟨g, z⟩ := new_lst R hl r
        exact k _ _ _ _ g z q⟩⟩
/-- isinstance of data and a built-in class -/
def tyD (G : DG) : D → String
  | .non => "NoneType"
  | .bl _ => "bool"
  | .int _ => "int"
  | .str _ => "str"
  | .ty _ => "type"
  | .tup _ => "tuple"
  | .lst _ => "list"
  | .scr _ => "list"
  | .ref a => match G a with
    | some (.lst _) => "list"
    | some (.dk _) => "dict"
    | _ => "?"
theorem tyD_at {B : Bk} {H : Hp} {G : DG} {v : V} {x : D} (R : Rep B H G) (i : IsD B.K H G v x) (h : tyD G x ≠ "?") (h' : tyD G x ≠ "type") : TyX B.K H v (.type (tyD G x)) := by
  cases i with
  | non => exact .base .non
  | bl b => exact .base (.bl b)
  | int i => exact .base (.int i)
  | str x => exact .base (.str x)
  | ty n => exact absurd rfl h'
  | tup h1 r =>
    rcases h1 with (h1 | ⟨o, h1⟩) | ⟨o, its, n, h1, h2, _⟩
    · exact .base (.tup h1)
    · exact .fTuple h1
    · exact .kTuple h1 h2
  | lst h1 h2 r => exact .base (.lst h1)
  | scr h1 h2 r =>
    rcases h1 with h1 | ⟨o, h1⟩
    · exact .base (.lst h1)
    · exact .base (.frz h1)
  | scrK h1 r =>
    rcases h1 with (h1 | ⟨o, h1⟩) | ⟨o, its, n, h1, h2, _⟩
    · cases h1
    · cases h1
    · exact .kList h1 h2
  | ref a =>
    unfold tyD at h ⊢
    cases e : G a with
    | none => simp only [e] at h; exact absurd rfl h
    | some o =>
      cases o with
      | lst ds =>
        simp only [e]
        obtain ⟨vs, hv, _⟩ := R a _ e
        exact .base (.lst hv)
      | dk kvs =>
        simp only [e]
        obtain ⟨vs, hv, _⟩ := R a _ e
        exact .base (.dK hv)
      | _ => simp only [e] at h; exact absurd rfl h
def iIsi : DRN := fun xs G Q => ∃ x n b, xs = [x, .ty n] ∧ tyD G x ≠ "?" ∧ tyD G x ≠ "type" ∧ kitB (tyD G x) n = some b ∧ Q (.bl b) G
theorem cb_isi : DCB X (.builtin "isinstance") iIsi :=
  ⟨_, call_isi, fun H G vs ds Qd Q R i ⟨x, n, b, e, h1, h2, h3, q⟩ k => by
    subst e
    obtain ⟨v, u, rfl, iv, iu⟩ := isds2 i
    cases iu
    exact ⟨v, .ty n, _, .type n, b, rfl, .ty n, tyD_at R iv h1 h2, kit_ty h3, k _ _ _ _ (.refl R) (.bl _) q⟩⟩
theorem de_ty {x : Str} {n : String} {pos : Pos} (hm : X.mg x = none) (hv : bootBuiltins x = some (.type n)) (hg : Gl X x := by rfl) (hn : x ≠ "__name__" := by decide) (hd : (x == ("__debug__" : Str)) = false := by decide) : DE X (.Name x pos) (dC (.ty n)) :=
  de_bltn (v := V.ty n) hg hm hv (show RelV (.ty n) (.type n) from rfl) (fun _ _ => .ty n) hn hd

/-! ### methods of built-in types -/
def tyOkD (T : String) (x : D) (G : DG) : Prop := (T = "list" ∧ ∃ ds, vS G x = some ds) ∨ (T = "str" ∧ ∃ z, x = .str z) ∨ (T = "int" ∧ ∃ z, x = .int z) ∨ (T = "dict" ∧ ∃ a kvs, x = .ref a ∧ G a = some (.dk kvs))
theorem tyOk_at {B : Bk} {T : String} {x : D} {v : V} {H : Hp} {G : DG} (R : Rep B H G) (i : IsD B.K H G v x) (h : tyOkD T x G) : tyV B.K T v H := by
  rcases h with ⟨rfl, ds, h⟩ | ⟨rfl, z, rfl⟩ | ⟨rfl, z, rfl⟩ | ⟨rfl, a, kvs, rfl, h⟩
  · obtain ⟨p, us, rfl, hp, r⟩ := vS_at R i h
    exact .inl ⟨rfl, us, hp⟩
  · cases i; exact rfl
  · cases i; exact rfl
  · cases i
    obtain ⟨ks, hk, _⟩ := R a _ h
    exact .inr (.inr (.inl ⟨rfl, .inl ⟨ks, hk⟩⟩))
abbrev DRM := D → List D → DG → DQ → Prop
def AnsM (B : Bk) (r0 : V → List V → Hp → VK → Prop) (r : DRM) : Prop := ∀ (H : Hp) (G : DG) (v : V) (x : D) (vs : List V) (ds : List D) (Qd : DQ) (Q : VK), Rep B H G → IsD B.K H G v x → IsDs B.K H G vs ds → r x ds G Qd →
  (∀ v' H' d G', Go B H G H' G' → IsD B.K H' G' v' d → Qd d G' → Q v' H') → r0 v vs H Q
structure DMt (X : Cx) (id : String) (r : DRM) : Prop where
  ex : ∃ r0, MtR X id r0 ∧ AnsM (bkx X) r0 r
def dBM0 (T : String) (r : DRM) (to : RE) : RE := fun τ G Q => to τ G fun x G1 => tyOkD T x G1 ∧ r x [] G1 Q
def dBM (T : String) (r : DRM) (to : RE) (t : RA) : RE := fun τ G Q => to τ G fun x G1 => tyOkD T x G1 ∧ t τ G1 fun ds G2 => r x ds G2 Q
section
variable {o e : Expr} {es : List Expr} {to : RE} {t : RA} {name : Str} {apos cpos : Pos} {T id : String} {r : DRM}
theorem de_bm0 (pa : PlainAttrs T) (slot : Slot T name id) (hty : typeOf (.builtin id) = pure (.type "method_descriptor")) (hm : DMt X id r) (ho : DE X o to)
    (hbase : attributeBase o name X.env (eval o X.env) = eval o X.env := by rfl) (hline : (apos.endLine == cpos.line) = true := by rfl) : DE X (.Call (.Attribute o name apos) [] [] cpos) (dBM0 T r to) := by
  obtain ⟨r0, m, an⟩ := hm
  exact PE.weak (pe_bm0 pa slot hty m ho hbase hline) fun σ H Q ⟨τ, G, Qd, a, q, k⟩ => liftE_of a q fun v H1 x G1 g1 i1 ⟨ty, q1⟩ =>
    ⟨tyOk_at g1.r i1 ty, an H1 G1 v x [] [] Qd Q g1.r i1 .nil q1 fun v' H' d' G' g => k v' H' d' G' (g1.trans g)⟩
theorem de_bm (pa : PlainAttrs T) (slot : Slot T name id) (hty : typeOf (.builtin id) = pure (.type "method_descriptor")) (hm : DMt X id r) (ho : DE X o to) (ha : DA X (e :: es) t)
    (hbase : attributeBase o name X.env (eval o X.env) = eval o X.env := by rfl)
    (hfew : ((backTo cpos (starEach (e :: es) X.env)).all (fun x => !x.1) && (backToKw cpos (keywordEach [] X.env)).all (fun x => x.1.isSome)
      && decide ((e :: es).length + ([] : List Keyword).length + (if ([] : List Keyword).isEmpty then 0 else 1) < 30)) = true := by rfl)
    (hline : (apos.endLine == cpos.line) = true := by rfl) (hs : starEach (e :: es) X.env = (false, eval e X.env) :: starEach es X.env := by rfl) (hplain : (backTo cpos (starEach es X.env)).any (·.1) = false := by rfl) :
    DE X (.Call (.Attribute o name apos) (e :: es) [] cpos) (dBM T r to t) := by
  obtain ⟨r0, m, an⟩ := hm
  exact PE.weak (pe_bm pa slot hty m ho ha hbase hfew hline hs hplain) fun σ H Q ⟨τ, G, Qd, a, q, k⟩ => liftE_of a q fun v H1 x G1 g1 i1 ⟨ty, q1⟩ =>
    ⟨tyOk_at g1.r i1 ty, liftA_of (a.go g1) q1 fun vs H2 ds G2 g2 i2 l q2 => an H2 G2 v x vs ds Qd Q g2.r (i1.fr g1.r g2.f) i2 q2 fun v' H' d' G' g => k v' H' d' G' ((g1.trans g2).trans g)⟩
end
theorem IsDs.dropLast {K : PySem.W.Frag} {H : Hp} {G : DG} {vs : List V} {ds : List D} (h : IsDs K H G vs ds) : IsDs K H G vs.dropLast ds.dropLast := by
  rw [List.dropLast_eq_take, List.dropLast_eq_take, h.length]
  exact h.take _
theorem dm_append : DMt X "list.append" (fun x ds G Q => ∃ l as y, x = .ref l ∧ ds = [y] ∧ G l = some (.lst as) ∧ as.length < sizeLine ∧ Q .non (up G l (.lst (as ++ [y])))) :=
  ⟨_, mt_append, fun H G v x vs ds Qd Q R i is ⟨l, as, y, ex, ed, hl, hz, q⟩ k => by
    subst ex; subst ed
    cases i
    obtain ⟨u, rfl, iu⟩ := isds1 is
    obtain ⟨us, hu, r⟩ := R l _ hl
    exact ⟨l, us, u, rfl, rfl, hu, by rw [r.length]; exact hz, k _ _ _ _ (set_lst R hl (r.append (.cons iu .nil))) .non q⟩⟩
theorem dm_extend : DMt X "list.extend" (fun x ds G Q => ∃ l as y bs, x = .ref l ∧ ds = [y] ∧ G l = some (.lst as) ∧ vL G y = some bs ∧ as.length + bs.length ≤ sizeLine ∧ Q .non (up G l (.lst (as ++ bs)))) :=
  ⟨_, mt_extend, fun H G v x vs ds Qd Q R i is ⟨l, as, y, bs, ex, ed, hl, hb, hz, q⟩ k => by
    subst ex; subst ed
    cases i
    obtain ⟨u, rfl, iu⟩ := isds1 is
    obtain ⟨us, hu, r⟩ := R l _ hl
    obtain ⟨p, ws, rfl, hp, r2⟩ := vL_at R iu hb
    exact ⟨l, p, us, ws, rfl, rfl, hu, hp, by rw [r.length, r2.length]; exact hz, k _ _ _ _ (set_lst R hl (r.append r2)) .non q⟩⟩
theorem dm_pop : DMt X "list.pop" (fun x ds G Q => ∃ l as y, x = .ref l ∧ ds = [] ∧ G l = some (.lst as) ∧ as[as.length - 1]? = some y ∧ Q y (up G l (.lst as.dropLast))) :=
  ⟨_, mt_pop, fun H G v x vs ds Qd Q R i is ⟨l, as, y, ex, ed, hl, hy, q⟩ k => by
    subst ex; subst ed
    cases i
    cases is
    obtain ⟨us, hu, r⟩ := R l _ hl
    obtain ⟨w, hw, iw⟩ := r.get hy
    have g := set_lst R hl r.dropLast
    exact ⟨l, us, w, rfl, rfl, hu, by rw [r.length]; exact hw, k _ _ _ _ g (iw.fr R g.f) q⟩⟩
/-- s.index(c), there -/
theorem dm_index (hc : X.calm = true) : DMt X "str.index" (fun x ds G Q => ∃ a b n, x = .str a ∧ ds = [.str b] ∧ Txt.index0 a b = some n ∧ Q (.int (n : Nat)) G) := by
  refine ⟨fun x xs H Q => ∃ (a b : Str) (n : Nat), x = .str a ∧ xs = [.str b] ∧ Txt.index0 a b = some n ∧ Q (.int n) H, ?_, ?_⟩
  · intro pins s σ H x xs v us Q I r rs ⟨a, b, n, e1, e2, h, q⟩
    exact mt_indexX (W := fun _ _ _ _ => False) hc takes0 pins s σ H x xs v us Q I r rs ⟨a, b, e1, e2, fun k hk => by rw [h] at hk; cases hk; exact q, fun z => by rw [h] at z; cases z⟩
  · intro H G v x vs ds Qd Q R i is ⟨a, b, n, ex, ed, h, q⟩ k
    subst ex; subst ed
    cases i
    obtain ⟨u, rfl, iu⟩ := isds1 is
    cases iu
    exact ⟨a, b, n, rfl, rfl, h, k _ _ _ _ (.refl R) (.int _) q⟩
end
end QF
/-! QE: over data: dicts; in. -/
namespace QF
open PySem L2

/-! ### what a dict holds -/
def dgetL (kvs : List (D × D)) (k : D) : Option D := (kvs.find? fun p => decide (p.1.norm = k.norm)).map (·.2)
def dputL (kvs : List (D × D)) (k v : D) : List (D × D) := if (dgetL kvs k).isSome then kvs.map (fun p => if p.1.norm = k.norm then (p.1, v) else p) else kvs ++ [(k, v)]
def ddelL (kvs : List (D × D)) (k : D) : List (D × D) := kvs.filter fun p => decide (p.1.norm ≠ k.norm)
theorem dputL_length (kvs : List (D × D)) (k v : D) : (dputL kvs k v).length ≤ kvs.length + 1 := by
  unfold dputL
  split <;> simp
/-- a key of the kind -/
def isK : D → Bool
  | .int _ => true
  | .str _ => true
  | _ => false
def isN : D → Bool
  | .tup ds => D.keyables ds && decide ((D.tup ds).norm.depth ≤ 8)
  | _ => false
def kOf : D → Option Key
  | .int i => some (.inl i)
  | .str x => some (.inr x)
  | _ => none
theorem isK_of {d : D} (h : isK d = true) : ∃ k, d = keyD k ∧ kOf d = some k := by
  cases d with
  | int i => exact ⟨.inl i, rfl, rfl⟩
  | str x => exact ⟨.inr x, rfl, rfl⟩
  | _ => cases h
theorem keyD_inj {a b : Key} : (keyD a).norm = (keyD b).norm ↔ a = b := by
  cases a <;> cases b <;> simp [keyD, D.norm]
theorem isD_key {K : PySem.W.Frag} {H : Hp} {G : DG} {v : V} {k : Key} (i : IsD K H G v (keyD k)) : v = kV k := by
  cases k <;> (cases i; rfl)
theorem key_isD {K : PySem.W.Frag} {H : Hp} {G : DG} (k : Key) : IsD K H G (kV k) (keyD k) := by
  cases k
  · exact .int _
  · exact .str _
section
variable {K : PySem.W.Frag} {H : Hp} {G : DG}
theorem krel_get : ∀ {ks : List (Key × V)} {kvs : List (D × D)} (k : Key), Paired (KRel K H G) ks kvs → (∀ d, dgetL kvs (keyD k) = some d → ∃ v, valV ks k = some v ∧ IsD K H G v d) ∧ (dgetL kvs (keyD k) = none → valV ks k = none)
  | _, _, k, .nil => ⟨fun d h => by simp [dgetL] at h, fun _ => rfl⟩
  | (p, v) :: ks, (q, d) :: kvs, k, .cons h r => by
    obtain ⟨h1, h2⟩ := h
    have h1 : q = keyD p := h1
    subst h1
    have ih := krel_get (ks := ks) (kvs := kvs) k r
    unfold dgetL valV at ih ⊢
    by_cases e : p = k
    · subst e
      simp only [List.find?_cons, decide_true]
      exact ⟨fun d' hd => by simp at hd; subst hd; exact ⟨v, rfl, h2⟩, fun hn => by simp at hn⟩
    · have e' : ¬ (keyD p).norm = (keyD k).norm := fun z => e (keyD_inj.mp z)
      simp only [List.find?_cons, e, e', decide_false]
      exact ih
theorem krel_some {ks : List (Key × V)} {kvs : List (D × D)} {k : Key} (r : Paired (KRel K H G) ks kvs) : (valV ks k).isSome = (dgetL kvs (keyD k)).isSome := by
  have h := krel_get k r
  cases q : dgetL kvs (keyD k) with
  | none => rw [h.2 q]; rfl
  | some d => obtain ⟨v, hv, _⟩ := h.1 d q; rw [hv]; rfl
theorem krel_map {v : V} {d : D} (i : IsD K H G v d) (k : Key) : ∀ {ks : List (Key × V)} {kvs : List (D × D)}, Paired (KRel K H G) ks kvs → Paired (KRel K H G) (ks.map fun p => if p.1 = k then (p.1, v) else p) (kvs.map fun p => if p.1.norm = (keyD k).norm then (p.1, d) else p)
  | _, _, .nil => .nil
  | (p, w) :: ks, (q, e) :: kvs, .cons h r => by
    obtain ⟨h1, h2⟩ := h
    have h1 : q = keyD p := h1
    subst h1
    refine .cons ?_ (krel_map i k r)
    by_cases z : p = k
    · subst z
      simp only [if_pos]
      exact ⟨rfl, i⟩
    · have z' : ¬ (keyD p).norm = (keyD k).norm := fun y => z (keyD_inj.mp y)
      simp only [if_neg z, if_neg z']
      exact ⟨rfl, h2⟩
theorem paired_append {α β : Type} {F : α → β → Prop} : ∀ {l1 m1 : List α} {l2 m2 : List β}, Paired F l1 l2 → Paired F m1 m2 → Paired F (l1 ++ m1) (l2 ++ m2)
  | _, _, _, _, .nil, s => s
  | _, _, _, _, .cons h r, s => .cons h (paired_append r s)
theorem krel_put {ks : List (Key × V)} {kvs : List (D × D)} {k : Key} {v : V} {d : D} (i : IsD K H G v d) (r : Paired (KRel K H G) ks kvs) : Paired (KRel K H G) (putK ks k v) (dputL kvs (keyD k) d) := by
  have hs := krel_some (k := k) r
  unfold putK dputL
  rw [valV_any, hs]
  by_cases z : (dgetL kvs (keyD k)).isSome = true
  · rw [if_pos z, if_pos z]
    exact krel_map i k r
  · rw [if_neg z, if_neg z]
    exact paired_append r (.cons ⟨rfl, i⟩ .nil)
theorem krel_del {k : Key} : ∀ {ks : List (Key × V)} {kvs : List (D × D)}, Paired (KRel K H G) ks kvs → Paired (KRel K H G) (dropK ks k) (ddelL kvs (keyD k))
  | _, _, .nil => .nil
  | (p, w) :: ks, (q, e) :: kvs, .cons h r => by
    obtain ⟨h1, h2⟩ := h
    have h1 : q = keyD p := h1
    subst h1
    have ih := krel_del (k := k) r
    unfold dropK ddelL at ih ⊢
    by_cases z : p = k
    · subst z
      simpa using ih
    · have z' : ¬ (keyD p).norm = (keyD k).norm := fun y => z (keyD_inj.mp y)
      simp only [List.filter_cons, ne_eq, z, z', not_false_eq_true, decide_true, if_true]
      exact .cons ⟨rfl, h2⟩ ih
/-! the same of entries with tuple keys -/
theorem nrel_get : ∀ {xs : List (NestedKey × Addr × Value)} {kvs : List (D × D)} (k : D), Paired (NRel K H G) xs kvs → (∀ d, dgetL kvs k = some d → ∃ p v, atKey xs k.norm = some p ∧ RelV v p.2 ∧ IsD K H G v d) ∧ (dgetL kvs k = none → atKey xs k.norm = none)
  | _, _, k, .nil => ⟨fun d h => by simp [dgetL] at h, fun _ => rfl⟩
  | (n, b, u) :: xs, (q, d) :: kvs, k, .cons h r => by
    obtain ⟨h1, h2, h3, h4, h5, v, h6, h7⟩ := h
    have h1 : n = q.norm := h1
    subst h1
    have ih := nrel_get (xs := xs) (kvs := kvs) k r
    unfold dgetL atKey at ih ⊢
    by_cases e : q.norm = k.norm
    · simp only [List.find?_cons, e, decide_true]
      exact ⟨fun d' hd => by simp at hd; subst hd; exact ⟨(b, u), v, rfl, h6, h7⟩, fun hn => by simp at hn⟩
    · simp only [List.find?_cons, e, decide_false]
      exact ih
theorem nrel_some {xs : List (NestedKey × Addr × Value)} {kvs : List (D × D)} {k : D} (r : Paired (NRel K H G) xs kvs) : (atKey xs k.norm).isSome = (dgetL kvs k).isSome := by
  have h := nrel_get k r
  cases q : dgetL kvs k with
  | none => rw [h.2 q]; rfl
  | some d => obtain ⟨p, v, hv, _⟩ := h.1 d q; rw [hv]; rfl
theorem nrel_put {xs : List (NestedKey × Addr × Value)} {kvs : List (D × D)} {k : D} {b : Addr} {v : V} {u : Value} {d : D} (hk : k.keyable = true) (hd : k.norm.depth ≤ 8) (ht : ∃ ds, k = .tup ds) (ik : IsD K H G (.ref b) k) (ru : RelV v u) (i : IsD K H G v d) (r : Paired (NRel K H G) xs kvs) :
    Paired (NRel K H G) (storedH xs k.norm b u) (dputL kvs k d) := by
  have hs := nrel_some (k := k) r
  unfold storedH dputL
  rw [hs]
  by_cases z : (dgetL kvs k).isSome = true
  · rw [if_pos z, if_pos z]
    have key : ∀ {xs : List (NestedKey × Addr × Value)} {kvs : List (D × D)}, Paired (NRel K H G) xs kvs → Paired (NRel K H G) (xs.map (putAt k.norm u)) (kvs.map fun p => if p.1.norm = k.norm then (p.1, d) else p) := by
      intro xs kvs r
      induction r with
      | nil => exact .nil
      | @cons p q ps qs h t ih =>
        obtain ⟨h1, h2, h3, h4, h5, w, h6, h7⟩ := h
        refine .cons ?_ ih
        unfold putAt
        dsimp only
        by_cases e : q.1.norm = k.norm
        · rw [if_pos (h1.trans e), if_pos e]
          exact ⟨h1, h2, h3, h4, h5, v, ru, i⟩
        · rw [if_neg (fun y => e (h1.symm.trans y)), if_neg e]
          exact ⟨h1, h2, h3, h4, h5, w, h6, h7⟩
    exact key r
  · rw [if_neg z, if_neg z]
    exact paired_append r (.cons ⟨rfl, hk, hd, ht, ik, v, ru, i⟩ .nil)
theorem nrel_del {k : D} : ∀ {xs : List (NestedKey × Addr × Value)} {kvs : List (D × D)}, Paired (NRel K H G) xs kvs → Paired (NRel K H G) (withoutH xs k.norm) (ddelL kvs k)
  | _, _, .nil => .nil
  | (n, b, u) :: xs, (q, e) :: kvs, .cons h r => by
    have h0 := h
    obtain ⟨h1, _⟩ := h
    have h1 : n = q.norm := h1
    have ih := nrel_del (k := k) r
    unfold withoutH ddelL at ih ⊢
    by_cases z : q.norm = k.norm
    · have z1 : n = k.norm := h1.trans z
      simpa [List.filter_cons, z, z1] using ih
    · have z1 : ¬ n = k.norm := fun y => z (h1.symm.trans y)
      simp only [List.filter_cons, ne_eq, z, z1, not_false_eq_true, decide_true, if_true]
      exact .cons h0 ih
end

/-! ### what stands in the heap -/
section
variable {X : Cx} {pins : List (Addr × Obj)} {σ : St} {H : Hp} {s : Shared}
mutual
theorem nested_of (I : Inv X pins σ H s) {G : DG} : ∀ {v : V} {d : D} {u : Value}, IsD X.K H G v d → d.keyable = true → RelV v u → NestedIs s.heap d.norm u
  | _, _, _, .non, _, r => by cases r; exact .none
  | _, _, _, .bl b, _, r => by cases r; exact .bool rfl
  | _, _, _, .int i, _, r => by obtain ⟨t, rfl⟩ := r; exact .int _ _
  | _, _, _, .str x, _, r => by obtain ⟨t, rfl⟩ := r; exact .text _ _
  | _, _, _, .ty n, h, _ => by cases h
  | _, _, _, .ref a, h, _ => by cases h
  | _, _, _, .lst _ _ _, h, _ => by cases h
  | _, _, _, .scr _ _ _, h, _ => by cases h
  | _, _, _, .scrK _ _, h, _ => by cases h
  | _, _, _, .tup h1 r1, h, r => by
    cases r
    obtain ⟨its, rv, ⟨o, ho, hc, n, hd⟩, _⟩ := I.tuple h1
    exact .tup ho hc hd (by simpa using nesteds_of I r1 h rv)
theorem nesteds_of (I : Inv X pins σ H s) {G : DG} : ∀ {vs : List V} {ds : List D} {us : List Value}, IsDs X.K H G vs ds → D.keyables ds = true → Vals vs us → NestedAll s.heap (D.norms ds) us
  | _, _, _, .nil, _, r => by cases r; exact .nil
  | _, _, _, .cons i is, h, r => by
    have h' : (D.keyable _ && D.keyables _) = true := h
    rw [Bool.and_eq_true] at h'
    cases r with
    | cons a b => exact .cons (nested_of I i h'.1 a) (nesteds_of I is h'.2 b)
end
theorem key_in (I : Inv X pins σ H s) {G : DG} {b : Addr} {k : D} (i : IsD X.K H G (.ref b) k) (h : isN k = true) : (nestedKind X.prog X.w).is s.heap k.norm b := by
  cases k with
  | tup ds =>
    have h' : (D.keyables ds && decide ((D.tup ds).norm.depth ≤ 8)) = true := h
    rw [Bool.and_eq_true] at h'
    exact ⟨nested_of I i h'.1 rfl, of_decide_eq_true h'.2⟩
  | _ => cases h
theorem dn_in (I : Inv X pins σ H s) {G : DG} {a : Addr} {xs : List (NestedKey × Addr × Value)} {kvs : List (D × D)} (h : Rd H a (.ext (nφ (bkx X) a xs))) (r : Paired (NRel X.K H G) xs kvs) : s.heap.DictOfH (nestedKind X.prog X.w) a xs := by
  obtain ⟨⟨o, es, ep, h1, h2, h3, h4, h5⟩, _⟩ := h.ok I.hok
  refine ⟨o, es, ep, h1, h2, h3, h4, fun x hx => ?_, h5⟩
  have key : ∀ {xs : List (NestedKey × Addr × Value)} {kvs : List (D × D)}, Paired (NRel X.K H G) xs kvs → ∀ x ∈ xs, (nestedKind X.prog X.w).is s.heap x.1 x.2.1 := by
    intro xs kvs r
    induction r with
    | nil => intro x hx; cases hx
    | @cons p q ps qs h t ih =>
      intro x hx
      rcases List.mem_cons.mp hx with e | hx
      · subst e
        obtain ⟨h1, h2, h3, ⟨ds, h4⟩, h5, _⟩ := h
        have := nested_of I h5 h2 (show RelV (.ref x.2.1) (.ref x.2.1) from rfl)
        rw [← h1] at this
        exact ⟨this, h3⟩
      · exact ih x hx
  exact key r x hx
theorem dn_new {B : Bk} {H' : Hp} {h' : Heap} {a : Addr} {xs : List (NestedKey × Addr × Value)} (dd : h'.DictOfH (nestedKind B.P B.w) a xs) : ObjOk B.P B.w H' h' a (.ext (nφ B a xs)) := by
  obtain ⟨o, es, ep, h1, h2, h3, h4, _, h5⟩ := dd
  refine ⟨⟨o, es, ep, h1, h2, h3, h4, h5⟩, ⟨o, h1⟩, fun g1 g2 ⟨o, es, ep, k1, k2⟩ hk => ⟨o, es, ep, hk o k1, k2⟩⟩
end

/-! ### a dict in the map -/
/-- its entries, where the key is of its kind -/
def dkv (G : DG) (x k : D) : Option (List (D × D)) := match x with
  | .ref a => match G a with
    | some (.dk kvs) => if isK k = true then some kvs else none
    | some (.dn kvs) => if isN k = true then some kvs else none
    | some (.lk _ (.dK _) kvs) => if isK k = true then some kvs else none
    | some (.lk _ (.ext _) kvs) => if isN k = true then some kvs else none
    | _ => none
  | _ => none
/-- what is asked of the heap for a look-up -/
def DLook (B : Bk) (H : Hp) (G : DG) (a : Addr) (y : V) (k : D) (kvs : List (D × D)) : Prop :=
  (∃ ks q, Rd H a (.dK ks) ∧ Paired (KRel B.K H G) ks kvs ∧ k = keyD q ∧ y = kV q) ∨ (∃ xs b, Rd H a (.ext (nφ B a xs)) ∧ (a == sysModules) = false ∧ xs.length ≤ sizeLine ∧ Paired (NRel B.K H G) xs kvs ∧ isN k = true ∧ y = .ref b ∧ IsD B.K H G (.ref b) k)
theorem isN_ref {K : PySem.W.Frag} {H : Hp} {G : DG} {v : V} {k : D} (i : IsD K H G v k) (h : isN k = true) : ∃ b, v = .ref b ∧ IsD K H G (.ref b) k := by
  cases i with
  | tup h1 r => exact ⟨_, rfl, .tup h1 r⟩
  | _ => cases h
theorem dkv_at {B : Bk} {H : Hp} {G : DG} {v y : V} {x k : D} {kvs : List (D × D)} (R : Rep B H G) (iv : IsD B.K H G v x) (iy : IsD B.K H G y k) (h : dkv G x k = some kvs) : ∃ a, v = .ref a ∧ DLook B H G a y k kvs := by
  cases x with
  | ref a =>
    cases iv
    refine ⟨a, rfl, ?_⟩
    unfold dkv at h
    cases e : G a with
    | none => simp only [e] at h; cases h
    | some o =>
      cases o with
      | dk es =>
        simp only [e] at h
        by_cases hk : isK k = true
        · rw [if_pos hk] at h; cases h
          obtain ⟨q, rfl, _⟩ := isK_of hk
          obtain ⟨ks, h1, h2⟩ := R a _ e
          exact .inl ⟨ks, q, .inl h1, h2, rfl, isD_key iy⟩
        · rw [if_neg hk] at h; cases h
      | dn es =>
        simp only [e] at h
        by_cases hk : isN k = true
        · rw [if_pos hk] at h; cases h
          obtain ⟨b, rfl, ib⟩ := isN_ref iy hk
          obtain ⟨xs, h1, h2, h3, h4⟩ := R a _ e
          exact .inr ⟨xs, b, .inl h1, h3, h2, h4, hk, rfl, ib⟩
        · rw [if_neg hk] at h; cases h
      | lk od u es =>
        obtain ⟨h1, h2⟩ := R a _ e
        rcases h2 with ⟨ks, e2, h2⟩ | ⟨xs, e2, h3, h4, h2⟩
        · subst e2
          simp only [e] at h
          by_cases hk : isK k = true
          · rw [if_pos hk] at h; cases h
            obtain ⟨q, rfl, _⟩ := isK_of hk
            exact .inl ⟨ks, q, .inr ⟨od, h1⟩, h2, rfl, isD_key iy⟩
          · rw [if_neg hk] at h; cases h
        · subst e2
          simp only [e] at h
          by_cases hk : isN k = true
          · rw [if_pos hk] at h; cases h
            obtain ⟨b, rfl, ib⟩ := isN_ref iy hk
            exact .inr ⟨xs, b, .inr ⟨od, h1⟩, h4, h3, h2, hk, rfl, ib⟩
          · rw [if_neg hk] at h; cases h
      | _ => simp only [e] at h; cases h
  | _ => cases h
section
variable {X : Cx}
theorem room8 {A : Around} (hu : A.units + 16 < cLine) {P : Program} {w : World} : (nestedKind P w).room A.in1 := by
  show A.units + 1 + 8 < cLine
  omega
/-- k in d -/
theorem dD_in (hu : X.A.units + 16 < cLine) : DOp X (compareOp .In) (fun k x G Q => ∃ kvs, dkv G x k = some kvs ∧ Q (.bl (dgetL kvs k).isSome) G) := by
  refine ⟨fun y v H Q => ∃ G a k kvs, v = .ref a ∧ DLook (bkx X) H G a y k kvs ∧ Q (.bl (dgetL kvs k).isSome) H, ?_, ?_⟩
  · intro pins s σ H y v uy uv Q I ry rv ⟨G, a, k, kvs, e, lk, q⟩
    subst e
    cases rv
    rcases lk with ⟨ks, p, h1, h2, rfl, rfl⟩ | ⟨xs, b, h1, h2, h3, h4, h5, rfl, h6⟩
    · exact d_in (by omega) I (.inl ⟨ks, p, h1, rfl, rfl⟩) ry fun s' I' => ⟨.bl _, H, I', by rw [krel_some h2]; rfl, q⟩
    · cases ry
      refine wpAny_in_heap (room8 hu) (key_in I h6 h5) h2 (dn_in I h1 h4) ⟨.bl _, H, I.tok _, rfl, ?_⟩
      rw [nrel_some h4]; exact q
  · intro H G v u x y Qd Q R i j ⟨kvs, h, q⟩ k
    obtain ⟨a, rfl, lk⟩ := dkv_at R j i h
    exact ⟨G, a, x, kvs, rfl, lk, k _ _ _ _ (.refl R) (.bl _) q⟩
theorem dD_notin (hu : X.A.units + 16 < cLine) : DOp X (compareOp .NotIn) (fun k x G Q => ∃ kvs, dkv G x k = some kvs ∧ Q (.bl (!(dgetL kvs k).isSome)) G) := by
  refine ⟨fun y v H Q => ∃ G a k kvs, v = .ref a ∧ DLook (bkx X) H G a y k kvs ∧ Q (.bl (!(dgetL kvs k).isSome)) H, ?_, ?_⟩
  · intro pins s σ H y v uy uv Q I ry rv ⟨G, a, k, kvs, e, lk, q⟩
    subst e
    cases rv
    rcases lk with ⟨ks, p, h1, h2, rfl, rfl⟩ | ⟨xs, b, h1, h2, h3, h4, h5, rfl, h6⟩
    · exact d_notIn (by omega) I (.inl ⟨ks, p, h1, rfl, rfl⟩) ry fun s' I' => ⟨.bl _, H, I', by rw [krel_some h2]; rfl, q⟩
    · cases ry
      refine PyProof.Rows.wpAny_notIn_heap (room8 hu) (key_in I h6 h5) h2 (dn_in I h1 h4) ⟨.bl _, H, I.tok _, rfl, ?_⟩
      rw [nrel_some h4]; exact q
  · intro H G v u x y Qd Q R i j ⟨kvs, h, q⟩ k
    obtain ⟨a, rfl, lk⟩ := dkv_at R j i h
    exact ⟨G, a, x, kvs, rfl, lk, k _ _ _ _ (.refl R) (.bl _) q⟩
/-- d[k], there -/
def dDGet (td tk : RE) : RE := fun τ G Q => td τ G fun x G1 => tk τ G1 fun k G2 => ∃ kvs d, dkv G2 x k = some kvs ∧ dgetL kvs k = some d ∧ Q d G2
theorem de_dget {o i : Expr} {pos : Pos} {td tk : RE} (hu : X.A.units + 16 < cLine) (ho : DE X o td) (hi : DE X i tk) (hs : NoSl i := by exact fun _ _ => rfl) : DE X (.Subscript o i pos) (dDGet td tk) := by
  refine ⟨fun pins s σ H Q I ⟨τ, G, Qd, a, q, kk⟩ => ?_⟩
  refine subD_of PySem.F.slot_dict_getitem.lookup hs (thn (ho.run pins s σ H (fun x H1 => liftE (bkx X) tk σ H1 fun y H2 => ∃ G2 a k kvs d v, x = .ref a ∧ DLook (bkx X) H2 G2 a y k kvs ∧ dgetL kvs k = some d ∧ (∀ v, IsD X.K H2 G2 v d → Q v H2) ∧ v = 0) I
    (liftE_of a q fun v H1 x G1 g1 i1 q1 => liftE_of (a.go g1) q1 fun u H2 k G2 g2 i2 ⟨kvs, d, h1, h2, q2⟩ => by
      obtain ⟨a', e, lk⟩ := dkv_at g2.r (i1.fr g1.r g2.f) i2 h1
      exact ⟨G2, a', k, kvs, d, 0, e, lk, h2, fun v iv => kk v H2 d G2 (g1.trans g2) iv q2, rfl⟩)) fun u s1 ⟨x, H1, I1, rx, q1⟩ => thn (hi.run pins s1 σ H1 _ I1 q1) fun iv s2 ⟨y, H2, I2, ry, G2, a', k, kvs, d, v0, ex, lk, hg, hq, _⟩ => ?_)
  subst ex
  obtain rfl : u = Value.ref a' := rx
  rcases lk with ⟨ks, p, h1, h2, rfl, rfl⟩ | ⟨xs, b, h1, h2, h3, h4, h5, rfl, h6⟩
  · obtain ⟨v, hv, iv'⟩ := (krel_get p h2).1 d hg
    have g : DGet H2 a' (kV p) (some v) := .inl ⟨ks, p, h1, rfl, hv.symm⟩
    exact ⟨dict_typeIs I2 g, d_getItem (by omega) I2 g ry fun w' s3 I3 rw' => ⟨v, H2, I3, rw', hq v iv'⟩⟩
  · obtain rfl : iv = Value.ref b := ry
    obtain ⟨p, v, hp, rv, iv'⟩ := (nrel_get k h4).1 d hg
    have dd := dn_in I2 h1 h4
    exact ⟨dd.typeIs, wpAny_getItem_heap (room8 hu) (key_in I2 h6 h5) dd hp ⟨v, H2, I2.tok _, rv, hq v iv'⟩⟩
/-- d[k] = v, a held dict -/
def dputG (G : DG) (x k v : D) (P : DG → Prop) : Prop := ∃ a, x = .ref a ∧ ((∃ kvs, G a = some (.dk kvs) ∧ isK k = true ∧ kvs.length < sizeLine ∧ P (up G a (.dk (dputL kvs k v)))) ∨ (∃ kvs, G a = some (.dn kvs) ∧ isN k = true ∧ kvs.length < sizeLine ∧ P (up G a (.dn (dputL kvs k v)))))
def rSetDict (B : Bk) : V → V → V → Hp → (Hp → Prop) → Prop := fun o y v H Q => ∃ a, o = .ref a ∧ ((∃ H', DPut H a y v H' ∧ Q H') ∨
  (∃ G xs kvs b k, H a = some (.ext (nφ B a xs)) ∧ (a == sysModules) = false ∧ Paired (NRel B.K H G) xs kvs ∧ xs.length < sizeLine ∧ isN k = true ∧ y = .ref b ∧ IsD B.K H G (.ref b) k ∧ ∀ u, RelV v u → Q (upd H a (.ext (nφ B a (storedH xs k.norm b u))))))
theorem set_dict (hu : X.A.units + 16 < cLine) : PSet X (rSetDict (bkx X)) := by
  intro pins s σ H o y v ov iv u Q I ro ry rv ⟨a, e, q⟩
  subst e
  cases ro
  rcases q with ⟨H', g, q⟩ | ⟨G, xs, kvs, b, k, h1, h2, h3, h4, h5, e, h6, q⟩
  · exact d_setItem (by omega) I g ry rv fun s' I' => ⟨H', I', q⟩
  · subst e
    cases ry
    have dd := dn_in I (.inl h1) h3
    refine wpAny_setItem_heap (hsz := Nat.le_of_lt h4) (room8 hu) (key_in I h6 h5) dd fun h' dd' hs => ?_
    have he : ∃ q, h'.get? a = some q := let ⟨q, _, _, hq, _⟩ := dd'; ⟨q, hq⟩
    exact ⟨_, I.write (x := a) (e := a) (by rw [h1]; exact True.intro) (.inl rfl) (fun b' q' hb z => (hs.2 b' hb).trans z) he (dn_new (B := bkx X) dd'), q u rv⟩
def sDPut (td tk tv : RE) : RS := fun E τ G => tv τ G fun v G1 => td τ G1 fun x G2 => tk τ G2 fun k G3 => dputG G3 x k v (fun G' => E.nx τ G')
theorem storedH_len {α : Type} [DecidableEq α] (xs : List (α × Addr × Value)) (k : α) (b : Addr) (u : Value) : (storedH xs k b u).length ≤ xs.length + 1 := by
  unfold storedH
  split <;> simp
theorem ds_dput {o i e : Expr} {pos tpos : Pos} {to ti tv : RE} (hu : X.A.units + 16 < cLine) (ho : DE X o to) (hi : DE X i ti) (he : DE X e tv) (hs : swapsWithSole [.Subscript o i tpos] e pos.line X.env = pure false := by rfl) (hw : swappedStores [.Subscript o i tpos] e X.env = pure none := by rfl)
    (h1 : (assignEach [.Subscript o i tpos] X.env).map (·.2) = [assign (.Subscript o i tpos) X.env] := by rfl)
    (ha : ∀ v, assign (.Subscript o i tpos) X.env v = (do
      let ov ← holding [v] (eval o X.env)
      let iv ← holding [v, ov] (eval i X.env)
      standAt tpos
      holding [v, ov, iv] (setItem ov iv v)
      release [v, ov, iv] []) := by intro _; rfl) : DS X (.Assign [.Subscript o i tpos] e pos) (sDPut to ti tv) :=
  PS.weak (ps_asg he (pg_sub ho hi (set_dict hu) ha) hs hw h1) fun E σ H ⟨τ, G, Dd, a, q, k⟩ => liftE_of a q fun v H1 d G1 g1 i1 q1 => liftE_of (a.go g1) q1 fun u H2 x G2 g2 i2 q2 => liftE_of ((a.go g1).go g2) q2 fun w H3 y G3 g3 i3 ⟨p, ex, q3⟩ => by
    subst ex
    cases i2
    have i1' := (i1.fr g1.r g2.f).fr g2.r g3.f
    refine ⟨p, rfl, ?_⟩
    rcases q3 with ⟨kvs, hp, hk, hl, q3⟩ | ⟨kvs, hp, hk, hl, q3⟩
    · obtain ⟨c, rfl, _⟩ := isK_of hk
      obtain ⟨ks, h1, h2⟩ := g3.r p _ hp
      have n' : H3 p = none ∨ G3 p ≠ none := .inr (by rw [hp]; exact fun z => nomatch z)
      have f4 : Frame H3 G3 (upd H3 p (.dK (putK ks c v))) (up G3 p (.dk (dputL kvs (keyD c) d))) := Frame.put n'
      have g4 : Go (bkx X) H3 G3 (upd H3 p (.dK (putK ks c v))) (up G3 p (.dk (dputL kvs (keyD c) d))) := ⟨f4, g3.r.put n' ⟨_, upd_same, paired_fr (krel_put i1' h2) fun _ _ => KRel.fr g3.r f4⟩⟩
      exact .inl ⟨_, .inl ⟨ks, c, h1, isD_key i3, by rw [Paired.length h2]; exact hl, rfl⟩, k.nx _ _ _ _ (((g1.trans g2).trans g3).trans g4) ((((a.go g1).go g2).go g3).go g4).s q3⟩
    · obtain ⟨b, rfl, ib⟩ := isN_ref i3 hk
      obtain ⟨xs, h1, h2, h3, h4⟩ := g3.r p _ hp
      refine .inr ⟨G3, xs, kvs, b, y, h1, h3, h4, by rw [Paired.length h4]; exact hl, hk, rfl, ib, fun u' ru => ?_⟩
      have n' : H3 p = none ∨ G3 p ≠ none := .inr (by rw [hp]; exact fun z => nomatch z)
      have hk' : y.keyable = true ∧ y.norm.depth ≤ 8 ∧ ∃ ds, y = .tup ds := by
        cases y with
        | tup ds =>
          have h' : (D.keyables ds && decide ((D.tup ds).norm.depth ≤ 8)) = true := hk
          rw [Bool.and_eq_true] at h'
          exact ⟨h'.1, of_decide_eq_true h'.2, ds, rfl⟩
        | _ => cases hk
      have f4 : Frame H3 G3 (upd H3 p (.ext (nφ (bkx X) p (storedH xs y.norm b u')))) (up G3 p (.dn (dputL kvs y d))) := Frame.put n'
      have hp4 := nrel_put hk'.1 hk'.2.1 hk'.2.2 ib ru i1' h4
      have g4 : Go (bkx X) H3 G3 (upd H3 p (.ext (nφ (bkx X) p (storedH xs y.norm b u')))) (up G3 p (.dn (dputL kvs y d))) := ⟨f4, g3.r.put n' ⟨_, upd_same, by
        have l1 := storedH_len xs y.norm b u'
        have l2 : xs.length = kvs.length := Paired.length h4
        omega, h3, paired_fr hp4 fun _ _ => NRel.fr g3.r f4⟩⟩
      exact k.nx _ _ _ _ (((g1.trans g2).trans g3).trans g4) ((((a.go g1).go g2).go g3).go g4).s q3
/-- {} of the two kinds -/
def dDNewK : RE := fun _ G Q => ∀ a, G a = none → Q (.ref a) (up G a (.dk []))
def dDNewN : RE := fun _ G Q => ∀ a, G a = none → Q (.ref a) (up G a (.dn []))
theorem de_dnewK {pos : Pos} : DE X (.Dict [] [] pos) dDNewK := PE.weak pe_dnewK fun σ H Q ⟨τ, G, Qd, a, q, k⟩ p hp => by
  have f : Frame H G (upd H p (.dK [])) (up G p (.dk [])) := Frame.put (.inl hp)
  exact k _ _ _ _ ⟨f, a.r.put (.inl hp) ⟨[], upd_same, .nil⟩⟩ (.ref p) (q p (a.r.free hp))
theorem pe_dnewN {pos : Pos} : PE X (.Dict [] [] pos) (fun _ H Q => ∀ p, H p = none → (p == sysModules) = false → Q (.ref p) (upd H p (.ext (nφ (bkx X) p [])))) := ⟨fun pins s σ H Q I h => by
  have hs : (s.heap.objs.size == sysModules) = false := beq_eq_false_iff_ne.mpr (Ne.symm (Nat.ne_of_lt I.big))
  refine wpAny_Dict_empty ⟨.ref s.heap.objs.size, _, I.laid (a := s.heap.objs.size) (o := .ext (nφ (bkx X) s.heap.objs.size [])) (t' := s.toks) (fun _ _ q => Heap.get?_push_of_some _ q) (Nat.le_refl _) (dn_new (B := bkx X) (Heap.DictOfH.new s.heap)), rfl, h _ (I.hok.fresh (Nat.le_refl _)) hs⟩⟩
theorem de_dnewN {pos : Pos} : DE X (.Dict [] [] pos) dDNewN := PE.weak pe_dnewN fun σ H Q ⟨τ, G, Qd, a, q, k⟩ p hp hs => by
  have f : Frame H G (upd H p (.ext (nφ (bkx X) p []))) (up G p (.dn [])) := Frame.put (.inl hp)
  exact k _ _ _ _ ⟨f, a.r.put (.inl hp) ⟨[], upd_same, Nat.zero_le _, hs, .nil⟩⟩ (.ref p) (q p (a.r.free hp))
end
end QF
/-! QG: over data: more of dicts (get, pop, len, walks), in of lists and tuples. -/
namespace QF
open PySem L2
section
variable {X : Cx}
/-! ### in of lists and tuples -/
theorem canLayAll_of {xs : List PyData} (h : SeqAt.shaped (.list xs) = true) : PyData.canLayAll0 xs = true := by
  have := SeqAt.canLay_of_shaped h
  simpa [PyData.canLay0] using this
theorem opIn (hu : X.A.units + 65 < cLine) : OpR X (compareOp .In) (fun x y H Q => ∃ d ds, Dp X.K H x d ∧ (Dp X.K H y (.list ds) ∨ Dp X.K H y (.tuple ds)) ∧ SeqAt.shaped d = true ∧ SeqAt.shaped (.list ds) = true ∧ Q (.bl (ds.any fun z => PyData.eqv z d)) H) := by
  intro pins s σ H x y v u Q I rx ry h
  obtain ⟨d, ds, hd, he, sd, se, q⟩ := h
  obtain ⟨as, r1⟩ := Dp.reads I d x v hd rx
  rcases he with he | he
  · obtain ⟨bs, r2⟩ := Dp.reads I (.list ds) y u he ry
    exact SeqAt.in_list_reads r2 r1 (SeqAt.canLay_of_shaped se) (SeqAt.canLay_of_shaped sd) (PyProof.Rows.room_in_shaped sd hu) ⟨.bl _, H, I, rfl, q⟩
  · obtain ⟨bs, r2⟩ := Dp.reads I (.tuple ds) y u he ry
    exact SeqAt.in_tuple_reads r2 r1 (canLayAll_of se) (SeqAt.canLay_of_shaped sd) (PyProof.Rows.room_in_shaped sd hu) ⟨.bl _, H, I, rfl, q⟩
theorem opNotIn (hu : X.A.units + 65 < cLine) : OpR X (compareOp .NotIn) (fun x y H Q => ∃ d ds, Dp X.K H x d ∧ (Dp X.K H y (.list ds) ∨ Dp X.K H y (.tuple ds)) ∧ SeqAt.shaped d = true ∧ SeqAt.shaped (.list ds) = true ∧ Q (.bl (!ds.any fun z => PyData.eqv z d)) H) := by
  intro pins s σ H x y v u Q I rx ry h
  obtain ⟨d, ds, hd, he, sd, se, q⟩ := h
  obtain ⟨as, r1⟩ := Dp.reads I d x v hd rx
  rcases he with he | he
  · obtain ⟨bs, r2⟩ := Dp.reads I (.list ds) y u he ry
    exact SeqAt.notIn_list_reads r2 r1 (SeqAt.canLay_of_shaped se) (SeqAt.canLay_of_shaped sd) (PyProof.Rows.room_in_shaped sd hu) ⟨.bl _, H, I, rfl, q⟩
  · obtain ⟨bs, r2⟩ := Dp.reads I (.tuple ds) y u he ry
    exact SeqAt.notIn_tuple_reads r2 r1 (canLayAll_of se) (SeqAt.canLay_of_shaped sd) (PyProof.Rows.room_in_shaped sd hu) ⟨.bl _, H, I, rfl, q⟩
def okL (ds : List D) : Bool := D.flats ds && SeqAt.shaped (.list (D.pys ds))
def vLT (G : DG) : D → Option (List D)
  | .tup ds => some ds
  | x => vL G x
theorem vLT_dp {B : Bk} {H : Hp} {G : DG} {v : V} {x : D} {ds : List D} (R : Rep B H G) (i : IsD B.K H G v x) (h : vLT G x = some ds) (f : D.flats ds = true) : Dp B.K H v (.list (D.pys ds)) ∨ Dp B.K H v (.tuple (D.pys ds)) := by
  have key : vL G x = some ds → Dp B.K H v (.list (D.pys ds)) ∨ Dp B.K H v (.tuple (D.pys ds)) := fun h => by
    obtain ⟨a, vs, rfl, h1, h2⟩ := vL_at R i h
    exact .inl (.lst (SqL.of h1) (IsDs.dp h2 f))
  cases x with
  | tup es =>
    cases h
    cases i with
    | tup h1 r => exact .inr (.tup h1 (IsDs.dp r f))
  | _ => exact key h
theorem pys_any (p : PyData → Bool) : ∀ ds : List D, (D.pys ds).any p = ds.any fun z => p z.py
  | [] => rfl
  | d :: ds => by
    show (d.py :: D.pys ds).any p = _
    rw [List.any_cons, List.any_cons, pys_any p ds]
theorem dS_in (hu : X.A.units + 65 < cLine) : DOp X (compareOp .In) (fun x y G Q => ∃ ds, vLT G y = some ds ∧ okD (vD G x) = true ∧ okL ds = true ∧ Q (.bl (ds.any fun z => deqv z (vD G x))) G) :=
  ⟨_, opIn hu, fun H G v u x y Qd Q R i j ⟨ds, h, c1, c2, q⟩ k => by
    unfold okD at c1
    unfold okL at c2
    rw [Bool.and_eq_true] at c1 c2
    exact ⟨_, _, vD_dp R i c1.1, vLT_dp R j h c2.1, c1.2, c2.2, k _ _ _ _ (.refl R) (.bl _) (by rw [pys_any]; exact q)⟩⟩
theorem dS_notin (hu : X.A.units + 65 < cLine) : DOp X (compareOp .NotIn) (fun x y G Q => ∃ ds, vLT G y = some ds ∧ okD (vD G x) = true ∧ okL ds = true ∧ Q (.bl (!ds.any fun z => deqv z (vD G x))) G) :=
  ⟨_, opNotIn hu, fun H G v u x y Qd Q R i j ⟨ds, h, c1, c2, q⟩ k => by
    unfold okD at c1
    unfold okL at c2
    rw [Bool.and_eq_true] at c1 c2
    exact ⟨_, _, vD_dp R i c1.1, vLT_dp R j h c2.1, c1.2, c2.2, k _ _ _ _ (.refl R) (.bl _) (by rw [pys_any]; exact q)⟩⟩
/-- a sign in a text -/
theorem dT_in : DOp X (compareOp .In) (fun x y G Q => ∃ (c : Nat) (z : Str), x = .str ⟨#[c]⟩ ∧ y = .str z ∧ Q (.bl (decide (c ∈ z.cps.toList))) G) :=
  ⟨_, op_in_sign, fun H G v u x y Qd Q R i j ⟨c, z, e1, e2, q⟩ k => by
    subst e1; subst e2
    cases i; cases j
    exact ⟨c, z, rfl, rfl, k _ _ _ _ (.refl R) (.bl _) q⟩⟩

/-! ### methods of a dict -/
def isDictG (G : DG) (x : D) : Prop := ∃ a, x = .ref a ∧ ((∃ kvs, G a = some (.dk kvs)) ∨ (∃ kvs, G a = some (.dn kvs)) ∨ (∃ od u kvs, G a = some (.lk od u kvs)))
def IsDictH (B : Bk) (H : Hp) (a : Addr) : Prop := (∃ ks, Rd H a (.dK ks)) ∨ (∃ xs, Rd H a (.ext (nφ B a xs)) ∧ (a == sysModules) = false)
theorem isDict_at {B : Bk} {H : Hp} {G : DG} {v : V} {x : D} (R : Rep B H G) (i : IsD B.K H G v x) (h : isDictG G x) : ∃ a, v = .ref a ∧ IsDictH B H a := by
  obtain ⟨a, rfl, h⟩ := h
  cases i
  refine ⟨a, rfl, ?_⟩
  rcases h with ⟨kvs, h⟩ | ⟨kvs, h⟩ | ⟨od, u, kvs, h⟩
  · obtain ⟨ks, h1, _⟩ := R a _ h
    exact .inl ⟨ks, .inl h1⟩
  · obtain ⟨xs, h1, _, h3, _⟩ := R a _ h
    exact .inr ⟨xs, .inl h1, h3⟩
  · obtain ⟨h1, h2⟩ := R a _ h
    rcases h2 with ⟨ks, e, _⟩ | ⟨xs, e, _, h3, _⟩
    · subst e; exact .inl ⟨ks, .inr ⟨od, h1⟩⟩
    · subst e; exact .inr ⟨xs, .inr ⟨od, h1⟩, h3⟩
theorem isDict_heap {pins : List (Addr × Obj)} {σ : St} {H : Hp} {s : Shared} {a : Addr} (I : Inv X pins σ H s) (d : IsDictH (bkx X) H a) : s.TypeIs (.ref a) "dict" ∧ (∀ b, Value.ref a = .ref b → ∃ ob, s.heap.get? b = some ob ∧ ob.dict = none) := by
  rcases d with ⟨ks, e⟩ | ⟨xs, e, _⟩
  · obtain ⟨_, hd, vs, _, dd⟩ := dk_rd I.hok e
    refine ⟨dd.typeIs, fun b q => ?_⟩
    cases q
    obtain ⟨ob, _, _, h1, h2, _⟩ := dd
    exact ⟨ob, h1, h2.2.1⟩
  · obtain ⟨⟨o, es, ep, h1, h2, h3, h4, h5⟩, _⟩ := e.ok I.hok
    refine ⟨⟨o, h1, h2.1⟩, fun b q => ?_⟩
    cases q
    exact ⟨o, h1, h2.2.1⟩
/-- d.get(k, x) -/
def dDGet2 (td tk tx : RE) : RE := fun τ G Q => td τ G fun x G1 => isDictG G1 x ∧ tk τ G1 fun k G2 => tx τ G2 fun z G3 => ∃ kvs, dkv G3 x k = some kvs ∧ Q ((dgetL kvs k).getD z) G3
theorem de_dget2 {o e f : Expr} {apos cpos : Pos} {td tk tx : RE} (hu : X.A.units + 16 < cLine) (ho : DE X o td) (he : DE X e tk) (hf : DE X f tx) (m : M2 X o "get" apos e f cpos := by exact ⟨rfl, rfl, rfl, rfl⟩) : DE X (.Call (.Attribute o "get" apos) [e, f] [] cpos) (dDGet2 td tk tx) := by
  refine ⟨fun pins s σ H Q I ⟨τ, G, Qd, a, q, kk⟩ => ?_⟩
  refine wpAny_Call_method m.base m.few m.line PySem.F.plainAttrs_dict PySem.F.slot_dict_get PySem.F.type_dict_get (thn (ho.run pins s σ H (fun x H1 => ∃ p, x = .ref p ∧ IsDictH (bkx X) H1 p ∧ liftE (bkx X) tk σ H1 fun y H2 => liftE (bkx X) tx σ H2 fun z H3 => ∃ G3 k kvs d, DLook (bkx X) H3 G3 p y k kvs ∧ IsD X.K H3 G3 z d ∧ (∀ w, IsD X.K H3 G3 w ((dgetL kvs k).getD d) → Q w H3)) I
    (liftE_of a q fun v H1 x G1 g1 i1 ⟨hd, q1⟩ => by
      obtain ⟨p, rfl, dd⟩ := isDict_at g1.r i1 hd
      refine ⟨p, rfl, dd, liftE_of (a.go g1) q1 fun u H2 k G2 g2 i2 q2 => liftE_of ((a.go g1).go g2) q2 fun w H3 d G3 g3 i3 ⟨kvs, h1, q3⟩ => ?_⟩
      obtain ⟨a', e, lk⟩ := dkv_at g3.r ((i1.fr g1.r g2.f).fr g2.r g3.f) (i2.fr g2.r g3.f) h1
      cases e
      exact ⟨G3, k, kvs, d, lk, i3, fun w iw => kk w H3 _ G3 ((g1.trans g2).trans g3) iw q3⟩)) fun u s1 ⟨x, H1, I1, rx, p, ex, dd, q1⟩ => ?_)
  subst ex
  obtain rfl : u = Value.ref p := rx
  obtain ⟨t1, t2⟩ := isDict_heap I1 dd
  refine ⟨t1, t2, ?_⟩
  rw [m.trees]
  refine Calls.callWith_builtin rfl (Calls.evalArgs_plain (Calls.spliced_cons (thn (he.run pins s1 σ H1 _ I1 q1) fun iv s2 ⟨y, H2, I2, ry, q2⟩ =>
    Calls.spliced_cons (thn (hf.run pins s2 σ H2 _ I2 q2) fun fv s3 ⟨z, H3, I3, rz, G3, k, kvs, d, lk, iz, q3⟩ => Calls.spliced_nil ?_))))
  rcases lk with ⟨ks, p', h1, h2, rfl, rfl⟩ | ⟨xs, b, h1, h2, h3, h4, h5, rfl, h6⟩
  · refine d_get2 (by omega) I3 (.inl ⟨ks, p', h1, rfl, rfl⟩) ry rz fun w' s4 I4 rw' => ⟨_, H3, I4, rw', q3 _ ?_⟩
    have hg := krel_get p' h2
    cases e : dgetL kvs (keyD p') with
    | none => rw [hg.2 e]; exact iz
    | some d' => obtain ⟨v, hv, iv'⟩ := hg.1 d' e; rw [hv]; exact iv'
  · obtain rfl : iv = Value.ref b := ry
    have dd' := dn_in I3 h1 h4
    have hg := nrel_get k h4
    have fin : ∀ tk, EP X pins σ Q (((atKey xs k.norm).map (·.2)).getD fv) { s3 with toks := tk } := fun tk => by
      cases e : dgetL kvs k with
      | none =>
        rw [hg.2 e]
        refine ⟨z, H3, I3.tok _, rz, q3 z ?_⟩
        rw [e]; exact iz
      | some d' =>
        obtain ⟨pp, v, hv, rv, iv'⟩ := hg.1 d' e
        rw [hv]
        refine ⟨v, H3, I3.tok _, rv, q3 v ?_⟩
        rw [e]; exact iv'
    exact call_meetsIn PySem.F.slot_dict_get dd'.typeIs PySem.F.entry_dict_get (PySem.F.args_dict_get_3 _ _ _) (meetsH_dict_get_default (nestedKind X.prog X.w) p b h2 fv) ⟨room8 hu, k.norm, xs, key_in I3 h6 h5, dd', fin _⟩
/-- d.pop(k), there -/
def dDPop1 (td tk : RE) : RE := fun τ G Q => td τ G fun x G1 => isDictG G1 x ∧ tk τ G1 fun k G2 => ∃ a kvs d, x = .ref a ∧ dgetL kvs k = some d ∧ ((G2 a = some (.dk kvs) ∧ isK k = true ∧ Q d (up G2 a (.dk (ddelL kvs k)))) ∨ (G2 a = some (.dn kvs) ∧ isN k = true ∧ Q d (up G2 a (.dn (ddelL kvs k)))))
theorem de_dpop1 {o e : Expr} {apos cpos : Pos} {td tk : RE} (hu : X.A.units + 16 < cLine) (ho : DE X o td) (he : DE X e tk) (m : M1 X o "pop" apos e cpos := by exact ⟨rfl, rfl, rfl, rfl⟩) : DE X (.Call (.Attribute o "pop" apos) [e] [] cpos) (dDPop1 td tk) := by
  refine ⟨fun pins s σ H Q I ⟨τ, G, Qd, a, q, kk⟩ => ?_⟩
  refine wpAny_Call_method m.base m.few m.line PySem.F.plainAttrs_dict PySem.F.slot_dict_pop PySem.F.type_dict_pop (thn (ho.run pins s σ H (fun x H1 => ∃ p, x = .ref p ∧ IsDictH (bkx X) H1 p ∧ liftE (bkx X) tk σ H1 fun y H2 => ∃ G2 k kvs d, dgetL kvs k = some d ∧ Rep (bkx X) H2 G2 ∧ IsD X.K H2 G2 y k ∧
      ((G2 p = some (.dk kvs) ∧ isK k = true ∧ ∀ v H', Go (bkx X) H2 G2 H' (up G2 p (.dk (ddelL kvs k))) → IsD X.K H' (up G2 p (.dk (ddelL kvs k))) v d → Q v H') ∨ (G2 p = some (.dn kvs) ∧ isN k = true ∧ ∀ v H', Go (bkx X) H2 G2 H' (up G2 p (.dn (ddelL kvs k))) → IsD X.K H' (up G2 p (.dn (ddelL kvs k))) v d → Q v H'))) I
    (liftE_of a q fun v H1 x G1 g1 i1 ⟨hd, q1⟩ => by
      obtain ⟨p, rfl, dd⟩ := isDict_at g1.r i1 hd
      refine ⟨p, rfl, dd, liftE_of (a.go g1) q1 fun u H2 k G2 g2 i2 ⟨a', kvs, d, e, hg, q2⟩ => ?_⟩
      subst e
      cases i1
      refine ⟨G2, k, kvs, d, hg, g2.r, i2, ?_⟩
      rcases q2 with ⟨h1, h2, q2⟩ | ⟨h1, h2, q2⟩
      · exact .inl ⟨h1, h2, fun v H' g iv => kk v H' d _ ((g1.trans g2).trans g) iv q2⟩
      · exact .inr ⟨h1, h2, fun v H' g iv => kk v H' d _ ((g1.trans g2).trans g) iv q2⟩)) fun u s1 ⟨x, H1, I1, rx, p, ex, dd, q1⟩ => ?_)
  subst ex
  obtain rfl : u = Value.ref p := rx
  obtain ⟨t1, t2⟩ := isDict_heap I1 dd
  refine ⟨t1, t2, ?_⟩
  rw [m.trees]
  refine Calls.callWith_builtin rfl (Calls.evalArgs_plain (Calls.spliced_cons (thn (he.run pins s1 σ H1 _ I1 q1) fun iv s2 ⟨y, H2, I2, ry, G2, k, kvs, d, hg, R2, iy, q2⟩ => Calls.spliced_nil ?_)))
  rcases q2 with ⟨h1, h2, q2⟩ | ⟨h1, h2, q2⟩
  · obtain ⟨c, rfl, _⟩ := isK_of h2
    obtain ⟨ks, h3, h4⟩ := R2 p _ h1
    have ey := isD_key iy
    subst ey
    obtain ⟨v, hv, iv'⟩ := (krel_get c h4).1 d hg
    have n' : H2 p = none ∨ G2 p ≠ none := .inr (by rw [h1]; exact fun z => nomatch z)
    have f4 : Frame H2 G2 (upd H2 p (.dK (dropK ks c))) (up G2 p (.dk (ddelL kvs (keyD c)))) := Frame.put n'
    have g4 : Go (bkx X) H2 G2 (upd H2 p (.dK (dropK ks c))) (up G2 p (.dk (ddelL kvs (keyD c)))) := ⟨f4, R2.put n' ⟨_, upd_same, paired_fr (krel_del h4) fun _ _ => KRel.fr R2 f4⟩⟩
    exact d_pop I2 h3 ry hv (.inl rfl) fun w' s3 I3 rw' => ⟨v, _, I3, rw', q2 v _ g4 (iv'.fr R2 f4)⟩
  · obtain ⟨b, rfl, ib⟩ := isN_ref iy h2
    obtain rfl : iv = Value.ref b := ry
    obtain ⟨xs, h3, h4, h5, h6⟩ := R2 p _ h1
    obtain ⟨pp, v, hv, rv, iv'⟩ := (nrel_get k h6).1 d hg
    have dd' := dn_in I2 (.inl h3) h6
    have n' : H2 p = none ∨ G2 p ≠ none := .inr (by rw [h1]; exact fun z => nomatch z)
    have f4 : Frame H2 G2 (upd H2 p (.ext (nφ (bkx X) p (withoutH xs k.norm)))) (up G2 p (.dn (ddelL kvs k))) := Frame.put n'
    have hz : (withoutH xs k.norm).length ≤ sizeLine := Nat.le_trans (by unfold withoutH; exact List.length_filter_le _ _) h4
    have g4 : Go (bkx X) H2 G2 (upd H2 p (.ext (nφ (bkx X) p (withoutH xs k.norm)))) (up G2 p (.dn (ddelL kvs k))) := ⟨f4, R2.put n' ⟨_, upd_same, hz, h5, paired_fr (nrel_del h6) fun _ _ => NRel.fr R2 f4⟩⟩
    refine call_pop_heap (hsz := h4) (.inl rfl) (PySem.F.args_dict_pop_2 _ _) (room8 hu) (key_in I2 ib h2) h5 dd' hv fun h' dd2 hs => ?_
    have he : ∃ q, h'.get? p = some q := let ⟨q, _, _, hq, _⟩ := dd2; ⟨q, hq⟩
    exact ⟨v, _, I2.write (x := p) (e := p) (by rw [h3]; exact True.intro) (.inl rfl) (fun b' q' hb z => (hs.2 b' hb).trans z) he (dn_new (B := bkx X) dd2), rv, q2 v _ g4 (iv'.fr R2 f4)⟩
/-- len(d) -/
theorem cb_lenD : DCB X (.builtin "len") (fun xs G Q => ∃ a kvs, xs = [.ref a] ∧ (G a = some (.dk kvs) ∨ G a = some (.dn kvs)) ∧ Q (.int kvs.length) G) := by
  refine ⟨fun xs H Q => ∃ a n, xs = [V.ref a] ∧ ((∃ ks, H a = some (.dK ks) ∧ n = ks.length) ∨ (∃ ys, H a = some (.ext (nφ (bkx X) a ys)) ∧ (a == sysModules) = false ∧ ys.length ≤ sizeLine ∧ n = ys.length)) ∧ Q (.int (n : Nat)) H, ?_, ?_⟩
  · intro pins s σ H xs us Q I r ⟨a, n, e, h, q⟩
    subst e
    obtain ⟨u, rfl, ru⟩ := vals1 r
    cases ru
    rcases h with ⟨ks, h, rfl⟩ | ⟨ys, h, h0, h1, rfl⟩
    · exact d_len I (.inl h) fun t s' I' => ⟨.int ks.length, H, I', ⟨t, rfl⟩, q⟩
    · obtain ⟨⟨o, es, ep, k1, k2, k3, k4, k5⟩, _⟩ := (Rd.of h).ok I.hok
      have hl : es.size = ys.length := size_of_entries k4
      have hr : s.heap.DictRaw a es ep := ⟨o, k1, k2, k3⟩
      refine PyProof.Rows.call_len_slot (n := ys.length) ⟨o, k1, k2.1⟩ PySem.F.slot_dict_len (fun Q' hq => call_len_raw h0 hr (by rw [hl]; exact hq)) (by omega) (by rw [sizeLine_eq] at h1; omega) ⟨.int ys.length, H, I.tok _, ⟨_, rfl⟩, q⟩
  · intro H G vs ds Qd Q R i ⟨a, kvs, e, h, q⟩ k
    subst e
    obtain ⟨v, rfl, iv⟩ := isds1 i
    cases iv
    rcases h with h | h
    · obtain ⟨ks, h1, h2⟩ := R a _ h
      exact ⟨a, _, rfl, .inl ⟨ks, h1, rfl⟩, k _ _ _ _ (.refl R) (.int _) (by have := Paired.length h2; rw [this]; exact q)⟩
    · obtain ⟨xs, h1, h2, h3, h4⟩ := R a _ h
      exact ⟨a, _, rfl, .inr ⟨xs, h1, h3, h2, rfl⟩, k _ _ _ _ (.refl R) (.int _) (by have := Paired.length h4; rw [this]; exact q)⟩
end
end QF
/-! QH: over data: locked dicts and their keys; enumerate over a tuple; list, tuple of a dict. -/
namespace PySem
open Sem (wp)
theorem meets_enumerate_new1 {v : Value} {o : Obj} {H : Heap → Prop} (B : Begins v o H) :
    Meets (Builtin.«enumerate.__new__» ⟨[.type "enumerate", v], []⟩) (fun _ R s => H s.heap ∧
      R (.ok (.ret (.ref (s.heap.push o).objs.size))) { s with heap := (s.heap.push o).push { cls := .type "enumerate", data := .fields #[.none, .bool false, .ref s.heap.objs.size, rawInt 0, .none, .none] } }) :=
  .of_wp fun prog w A R s h => by
    obtain ⟨hp, g, d, tk, os⟩ := s; obtain ⟨h1, h⟩ := h
    have hsub := sub_enumerate
    have q1 : ∀ {A' : Around} {E : Value → Shared → Prop} {Q : Value → Shared → Prop}, Q (.ref hp.objs.size) ⟨hp.push o, g, d, tk, os⟩ → wpAny (model prog w) A' (pyIter v) Q E ⟨hp, g, d, tk, os⟩ :=
      fun q => B.iter prog w _ _ ⟨hp, g, d, tk, os⟩ _ h1 q
    wp_walk using q1
    refine wpAny_stack_any fun st => wpAny_pure ?_
    split
    · rename_i c _ _ _ _ _
      cases (c == Value.type "enumerate")
      · wp_walk using q1
        exact ⟨_, rfl, h⟩
      · wp_walk using q1
        exact ⟨_, rfl, h⟩
    · wp_walk using q1
      exact ⟨_, rfl, h⟩
theorem enum_begins1 {prog : Program} {w : World} {A : Around} {E : Value → Shared → Prop} {s : Shared} {v : Value} {o : Obj} {H : Heap → Prop} {Q : Value → Shared → Prop} (B : Begins v o H) (h1 : H s.heap)
    (h : ∀ h', IsEnum h' (s.heap.objs.size + 1) s.heap.objs.size 0 .none → h'.get? s.heap.objs.size = some o → h'.objs.size = s.heap.objs.size + 2 →
      (∀ b o, s.heap.get? b = some o → h'.get? b = some o) → Q (.ref (s.heap.objs.size + 1)) { s with heap := h' }) :
    wpAny (model prog w) A (call (.type "enumerate") [v]) Q E s := by
  refine callType_new F.called_enumerate (by decide) (F.typeCall_enumerate_1 _) (F.newCall_enumerate_1 _) (fun obj => F.args_object_init_2 obj _) F.entry_enumerate_new
    (meets_enumerate_new1 B) ⟨h1, ?_⟩
  have hz : (s.heap.push o).objs.size = s.heap.objs.size + 1 := Heap.size_push ..
  show _ ∧ _
  rw [hz]
  have he : IsEnum ((s.heap.push o).push { cls := .type "enumerate", data := .fields #[.none, .bool false, .ref s.heap.objs.size, rawInt 0, .none, .none] }) (s.heap.objs.size + 1) s.heap.objs.size 0 .none := by
    have := Heap.get?_push_size (s.heap.push o) (o := { cls := .type "enumerate", data := .fields #[.none, .bool false, .ref s.heap.objs.size, rawInt 0, .none, .none] }) rfl
    rw [hz] at this; exact this
  refine ⟨⟨_, he, rfl⟩, h _ he (Heap.get?_push_of_some _ (Heap.get?_push_size _ B.free)) (by rw [Heap.size_push, hz]) fun b o x => Heap.get?_push_of_some _ (Heap.get?_push_of_some _ x)⟩
end PySem
namespace QF
open PySem L2
/-! ### enumerate(tuple) -/
def IteT (K : PySem.W.Frag) (a : Addr) : It :=
  ⟨fun i H => ∃ (xs : List V) (x : V), SqT K H a xs ∧ xs[i]? = some x, fun i H v H' => ∃ T x, v = .ref T ∧ H T = none ∧ H' = upd H T (.tup [.int (i : Nat), x]) ∧ ∀ xs, SqT K H a xs → xs[i]? = some x, fun i H => ∃ xs : List V, SqT K H a xs ∧ xs.length = i⟩
theorem turn_enumT {P : Program} {w : World} {K : PySem.W.Frag} {elts : List Expr} {kk : Nat} {tpos : Pos} (a e it : Addr) :
    L2.Turn P w K (.Tuple elts kk tpos) (IteT K a) [e, it] e (fun i h => (∃ old, IsEnum h e it ((i : Nat) : Int) old) ∧ h.IsTupleIter it a i ∧ e ≠ it) where
  mem := by simp
  obj := fun i h st b hb => by
    obtain ⟨⟨old, he⟩, ⟨o, ho, hc, hd⟩, _⟩ := st
    have e' : b = e ∨ b = it := by simpa using hb
    rcases e' with z | z
    · rw [z]; exact ⟨_, he, fun v q => nomatch q⟩
    · rw [z]; exact ⟨o, ho, fun v q => by rw [hd] at q; cases q⟩
  keep := fun i h h' st k => let ⟨⟨old, he⟩, hi, hne⟩ := st; ⟨⟨old, k e (by simp) _ he⟩, hi.at fun o q => k it (by simp) o q, hne⟩
  item := by
    intro X hP hw hK hc i pins s σ H E I hf st hg
    subst hP hw hK
    obtain ⟨⟨old, he⟩, hit, hne⟩ := st
    obtain ⟨xs, x, hq, hx⟩ := hg
    obtain ⟨its, rv, p, hz⟩ := I.tuple hq
    obtain ⟨u, hu, ru⟩ := rv.get hx
    have hel : e < s.heap.objs.size := Heap.lt_size he
    have hil : it < s.heap.objs.size := by obtain ⟨_, q, _⟩ := hit; exact Heap.lt_size q
    have hai : a ≠ it := by
      rintro rfl
      obtain ⟨o1, h1, h2, _⟩ := hit
      obtain ⟨o2, h3, h4, _⟩ := p
      rw [h1] at h3; cases h3
      rw [h2] at h4
      exact absurd h4 (by decide)
    have hea : e ≠ a := by
      rintro rfl
      obtain ⟨o2, h3, h4, _⟩ := p
      have he' := he
      unfold IsEnum at he'
      rw [he'] at h3; cases h3
      exact absurd (show Value.type "enumerate" = Value.type "tuple" from h4) (by decide)
    have D := Draws.tuple (prog := X.prog) (w := X.w) (A := X.A.in1) (show X.A.in1.handled = none from I.ok.hd hc) it a hai its.toArray
    have hlt : i < its.toArray.size := by
      have := (List.getElem?_eq_some_iff.mp hu).1
      simpa using this
    refine wpAny_pyNext_enum_itemC D he ⟨hit, p⟩ hlt hne (by simp [hne, hea]) fun y h' tk hy ho hst hT hsz hk => ?_
    have ey : y = u := by
      have hy : its.toArray[i]? = some y := hy
      rw [List.getElem?_toArray, hu] at hy
      exact (Option.some.inj hy).symm
    subst ey
    refine ⟨_, rfl, wpAny_letOwnedTupleGo_enum (s := { s with heap := h', toks := tk + 1 }) ho fun h'' he' sb => ?_⟩
    have hT2 : h''.get? s.heap.objs.size = some { cls := .type "tuple", data := .seq #[.int i tk, y] } := (sb.2 _ (Nat.ne_of_gt hel)).trans hT
    have new : ObjOk X.prog X.w (upd H s.heap.objs.size (.tup [.int (i : Nat), x])) h'' s.heap.objs.size (.tup [.int (i : Nat), x]) :=
      ⟨by show 2 ≤ sizeLine; decide, [.int i tk, y], .cons ⟨_, rfl⟩ (.cons ru .nil), ⟨_, hT2, rfl, _, rfl⟩⟩
    have I1 : Inv X pins σ (upd H s.heap.objs.size (.tup [.int (i : Nat), x])) { s with heap := h'', toks := tk + 1 } :=
      I.turnedNew (ch := [e, it]) (fun b ob hb q => (sb.2 b (fun z => hb (by simp [z]))).trans (hk b ob (fun z => hb (by simp [z])) (fun z => hb (by simp [z])) q)) hf (Nat.le_refl _) new
    refine ⟨.ref s.heap.objs.size, _, I1, rfl, ⟨_, x, rfl, I.hok.fresh (Nat.le_refl _), rfl, fun ys hy => by rw [I.tuple_inj hy hq]; exact hx⟩, ⟨⟨y, ?_⟩, hst.1.at fun o q => (sb.2 it (Ne.symm hne)).trans q, hne⟩, fun b hb => ?_⟩
    · have e1 : ((i + 1 : Nat) : Int) = (i : Int) + 1 := by omega
      rw [e1]; exact he'
    · have hb' : b < s.heap.objs.size := by
        have e' : b = e ∨ b = it := by simpa using hb
        rcases e' with z | z
        · rw [z]; exact hel
        · rw [z]; exact hil
      rw [upd_ne (Nat.ne_of_lt hb')]
      exact (hf b hb).1
  done := by
    intro X hP hw hK hc i pins s σ H E I hf st hg
    subst hP hw hK
    obtain ⟨⟨old, he⟩, hit, hne⟩ := st
    obtain ⟨xs, hq, hx⟩ := hg
    obtain ⟨its, rv, p, hz⟩ := I.tuple hq
    obtain ⟨f0, f1, f2, f3, f4, f5⟩ := hf it (by simp)
    have hl := rv.length
    have hai : a ≠ it := by
      rintro rfl
      obtain ⟨o1, h1, h2, _⟩ := hit
      obtain ⟨o2, h3, h4, _⟩ := p
      rw [h1] at h3; cases h3
      rw [h2] at h4
      exact absurd h4 (by decide)
    have D := Draws.tuple (prog := X.prog) (w := X.w) (A := X.A.in1) (show X.A.in1.handled = none from I.ok.hd hc) it a hai its.toArray
    have hi : i = its.toArray.size := by simp; omega
    subst hi
    exact wpAny_pyNext_enum_endD D he ⟨hit, p⟩ fun h' eb => ⟨rfl, I.turned (t' := s.toks) (fun b o hb q => eb b o hb q) f0 f1 f3 f4 f5⟩
  self := fun A i s Q E st h => let ⟨⟨_, he⟩, _⟩ := st; wpAny_pyIter_enum he h
def iEnumT (K : PySem.W.Frag) (ta : TA) : TI := fun σ H R => ta σ H fun vs H1 => ∃ a xs, vs = [.ref a] ∧ SqT K H1 a xs ∧ R (IteT K a) H1
theorem pi_enumT {X : Cx} {e : Expr} {ta : TA} {p pos tpos : Pos} {elts : List Expr} {kk : Nat} (hg : Gl X "enumerate") (hm : X.mg "enumerate" = none) (ha : PA X [e] ta) (hs : starEach [e] X.env = [(false, eval e X.env)] := by rfl) :
    PI X (.Tuple elts kk tpos) (.Call (.Name "enumerate" p) [e] [] pos) (iEnumT X.K ta) := by
  refine ⟨fun pins s σ H R I h => ?_⟩
  refine PyProof.Rows.Call_ (ld_blt I hg hm PyProof.Rows.boot_enumerate (PyProof.Rows.callWith_type1 (thn (ha.run pos pins s σ H _ I h) fun us s1 ⟨vs, H1, I1, r1, q1⟩ => ?_) hs rfl))
  obtain ⟨a, xs, ex, hq, q⟩ := q1
  subst ex
  cases r1 with
  | cons r rr =>
    cases rr
    cases r
    obtain ⟨its, rv, p', hz⟩ := I1.tuple hq
    refine enum_begins1 (begins_tuple a its.toArray) p' fun h' he hit hsz hk => wpAny_pyIter_enum he ?_
    have I2 : Inv X pins σ H1 { s1 with heap := h' } := I1.kept (t' := s1.toks) hk
    refine ⟨s1.heap.objs.size + 1, [s1.heap.objs.size + 1, s1.heap.objs.size], _, _, H1, rfl, I2, turn_enumT a (s1.heap.objs.size + 1) s1.heap.objs.size, ⟨⟨.none, he⟩, ⟨_, hit, rfl, rfl⟩, Nat.succ_ne_self _⟩, fun b hb => ?_, q⟩
    have e' : b = s1.heap.objs.size + 1 ∨ b = s1.heap.objs.size := by simpa using hb
    have hle : s1.heap.objs.size ≤ b := by
      rcases e' with z | z
      · rw [z]; exact Nat.le_add_right _ _
      · rw [z]; exact Nat.le_refl _
    exact I1.fpOk hle (I1.hok.fresh hle)
section
variable {X : Cx}
def wEnumT (t : RA) : RI := fun τ G R => t τ G fun xs G1 => ∃ ds, xs = [.tup ds] ∧ R (enumD ds) (fun _ => True) G1
theorem iteT_ok {B : Bk} {a : Addr} {ds : List D} : ItOk B (IteT B.K a) (enumD ds) (fun _ => True) (fun H G => IsD B.K H G (.ref a) (.tup ds)) where
  mono := fun H G H' G' R s g => s.fr R g.f
  go := fun i H G R s ok h => by
    rw [enumD_length] at h
    obtain ⟨a', vs, e, h1, h2⟩ := tup_at s
    cases e
    have hl := h2.length
    exact ⟨vs, vs[i]'(by omega), h1, by simp⟩
  stop := fun i H G R s ok h => by
    rw [enumD_length] at h
    obtain ⟨a', vs, e, h1, h2⟩ := tup_at s
    cases e
    exact ⟨vs, h1, by rw [h2.length, h]⟩
  yld := fun i H G y H' d R s ok hd hy => by
    obtain ⟨a', vs, e, h1, h2⟩ := tup_at s
    cases e
    obtain ⟨T, u, e, hT, e', q⟩ := hy
    subst e; subst e'
    obtain ⟨e, he, rfl⟩ := enumD_get hd
    obtain ⟨v, hv, iv⟩ := h2.get he
    have := q vs h1
    rw [hv] at this
    cases this
    obtain ⟨g, z⟩ := new_tup R hT (.cons (.int _) (.cons iv .nil))
    exact ⟨z, g⟩
theorem di_enumT {e : Expr} {t : RA} {p pos tpos : Pos} {elts : List Expr} {kk : Nat} (hg : Gl X "enumerate") (hm : X.mg "enumerate" = none) (h : DA X [e] t) (hs : starEach [e] X.env = [(false, eval e X.env)] := by rfl) :
    DI X (.Tuple elts kk tpos) (.Call (.Name "enumerate" p) [e] [] pos) (wEnumT t) :=
  PI.weak (pi_enumT hg hm h hs) fun σ H R ⟨τ, G, Rd, a, q, k⟩ => liftA_of a q fun vs H1 ds G1 g1 i1 l ⟨es, e, q1⟩ => by
    subst e
    cases i1 with
    | cons a1 r1 =>
      cases r1
      obtain ⟨p, us, rfl, h1, h2⟩ := tup_at a1
      exact ⟨p, us, rfl, h1, k _ _ _ _ _ _ g1 a1 iteT_ok q1⟩
end

/-! ### a dict locked while it is walked -/
/-- a: the dict's place -/
def sLock (t : RS) : RS := fun E τ G => ∃ a kvs, (G a = some (.dk kvs) ∧ ∀ od ks, t { nx := fun τ' G' => G' a = some (.lk od (.dK ks) kvs) ∧ E.nx τ' (up G' a (.dk kvs)), rt := fun d G' => G' a = some (.lk od (.dK ks) kvs) ∧ E.rt d (up G' a (.dk kvs)), bk := fun τ' G' => G' a = some (.lk od (.dK ks) kvs) ∧ E.bk τ' (up G' a (.dk kvs)), ct := fun τ' G' => G' a = some (.lk od (.dK ks) kvs) ∧ E.ct τ' (up G' a (.dk kvs)) } τ (up G a (.lk od (.dK ks) kvs))) ∨
  (G a = some (.dn kvs) ∧ ∀ od φ, t { nx := fun τ' G' => G' a = some (.lk od (.ext φ) kvs) ∧ E.nx τ' (up G' a (.dn kvs)), rt := fun d G' => G' a = some (.lk od (.ext φ) kvs) ∧ E.rt d (up G' a (.dn kvs)), bk := fun τ' G' => G' a = some (.lk od (.ext φ) kvs) ∧ E.bk τ' (up G' a (.dn kvs)), ct := fun τ' G' => G' a = some (.lk od (.ext φ) kvs) ∧ E.ct τ' (up G' a (.dn kvs)) } τ (up G a (.lk od (.ext φ) kvs)))
def dLock (t : RE) : RE := fun τ G Q => ∃ a kvs, (G a = some (.dk kvs) ∧ ∀ od ks, t τ (up G a (.lk od (.dK ks) kvs)) fun d G' => G' a = some (.lk od (.dK ks) kvs) ∧ Q d (up G' a (.dk kvs))) ∨
  (G a = some (.dn kvs) ∧ ∀ od φ, t τ (up G a (.lk od (.ext φ) kvs)) fun d G' => G' a = some (.lk od (.ext φ) kvs) ∧ Q d (up G' a (.dn kvs)))
theorem lock_go {B : Bk} {H : Hp} {G : DG} {a : Addr} {u : HO} {o : DO} {kvs : List (D × D)} {od : Obj} (R : Rep B H G) (hG : G a = some o) (hu : DictU B H G a u kvs) : Go B H G (upd H a (.frz od u)) (up G a (.lk od u kvs)) := by
  have n : H a = none ∨ G a ≠ none := .inr (by rw [hG]; exact fun z => nomatch z)
  have f : Frame H G (upd H a (.frz od u)) (up G a (.lk od u kvs)) := Frame.put n
  exact ⟨f, R.put n ⟨upd_same, hu.fr R f⟩⟩
theorem unlock_k {B : Bk} {H : Hp} {G : DG} {a : Addr} {ks : List (Key × V)} {kvs : List (D × D)} {od : Obj} (R : Rep B H G) (hG : G a = some (.lk od (.dK ks) kvs)) : H a = some (.frz od (.dK ks)) ∧ Go B H G (upd H a (.dK ks)) (up G a (.dk kvs)) := by
  obtain ⟨h1, h2⟩ := R a _ hG
  have n : H a = none ∨ G a ≠ none := .inr (by rw [hG]; exact fun z => nomatch z)
  have f : Frame H G (upd H a (.dK ks)) (up G a (.dk kvs)) := Frame.put n
  rcases h2 with ⟨ks', e, h2⟩ | ⟨xs, e, _⟩
  · cases e
    exact ⟨h1, f, R.put n ⟨ks, upd_same, paired_fr h2 fun _ _ => KRel.fr R f⟩⟩
  · cases e
theorem unlock_n {B : Bk} {H : Hp} {G : DG} {a : Addr} {φ : Heap → Prop} {kvs : List (D × D)} {od : Obj} (R : Rep B H G) (hG : G a = some (.lk od (.ext φ) kvs)) : H a = some (.frz od (.ext φ)) ∧ Go B H G (upd H a (.ext φ)) (up G a (.dn kvs)) := by
  obtain ⟨h1, h2⟩ := R a _ hG
  have n : H a = none ∨ G a ≠ none := .inr (by rw [hG]; exact fun z => nomatch z)
  have f : Frame H G (upd H a (.ext φ)) (up G a (.dn kvs)) := Frame.put n
  rcases h2 with ⟨ks', e, h2⟩ | ⟨xs, e, h3, h4, h2⟩
  · cases e
  · cases e
    exact ⟨h1, f, R.put n ⟨xs, upd_same, h3, h4, paired_fr h2 fun _ _ => NRel.fr R f⟩⟩
section
variable {X : Cx}
theorem ds_lock {st : Stmt} {t : RS} (h : DS X st t) : DS X st (sLock t) :=
  PS.weak (ps_lock h) fun E σ H ⟨τ, G, Dd, a, ⟨p, kvs, q⟩, k⟩ => by
    rcases q with ⟨hp, q⟩ | ⟨hp, q⟩
    · obtain ⟨ks, h1, h2⟩ := a.r p _ hp
      refine ⟨p, .dK ks, h1, True.intro, fun od => ?_⟩
      have g1 := lock_go (od := od) a.r hp (.inl ⟨ks, rfl, h2⟩)
      refine liftS_of (a.go g1) (q od ks) ⟨fun σ' H' τ' G' g s ⟨e, q'⟩ => ?_, fun v H' d G' g i ⟨e, q'⟩ => ?_, fun σ' H' τ' G' g s ⟨e, q'⟩ => ?_, fun σ' H' τ' G' g s ⟨e, q'⟩ => ?_⟩
      · obtain ⟨e1, g2⟩ := unlock_k g.r e
        exact ⟨e1, k.nx _ _ _ _ ((g1.trans g).trans g2) (s.fr g.r g2.f) q'⟩
      · obtain ⟨e1, g2⟩ := unlock_k g.r e
        exact ⟨e1, k.rt _ _ _ _ ((g1.trans g).trans g2) (i.fr g.r g2.f) q'⟩
      · obtain ⟨e1, g2⟩ := unlock_k g.r e
        exact ⟨e1, k.bk _ _ _ _ ((g1.trans g).trans g2) (s.fr g.r g2.f) q'⟩
      · obtain ⟨e1, g2⟩ := unlock_k g.r e
        exact ⟨e1, k.ct _ _ _ _ ((g1.trans g).trans g2) (s.fr g.r g2.f) q'⟩
    · obtain ⟨xs, h1, h2, h3, h4⟩ := a.r p _ hp
      refine ⟨p, .ext (nφ (bkx X) p xs), h1, True.intro, fun od => ?_⟩
      have g1 := lock_go (od := od) a.r hp (.inr ⟨xs, rfl, h2, h3, h4⟩)
      refine liftS_of (a.go g1) (q od _) ⟨fun σ' H' τ' G' g s ⟨e, q'⟩ => ?_, fun v H' d G' g i ⟨e, q'⟩ => ?_, fun σ' H' τ' G' g s ⟨e, q'⟩ => ?_, fun σ' H' τ' G' g s ⟨e, q'⟩ => ?_⟩
      · obtain ⟨e1, g2⟩ := unlock_n g.r e
        exact ⟨e1, k.nx _ _ _ _ ((g1.trans g).trans g2) (s.fr g.r g2.f) q'⟩
      · obtain ⟨e1, g2⟩ := unlock_n g.r e
        exact ⟨e1, k.rt _ _ _ _ ((g1.trans g).trans g2) (i.fr g.r g2.f) q'⟩
      · obtain ⟨e1, g2⟩ := unlock_n g.r e
        exact ⟨e1, k.bk _ _ _ _ ((g1.trans g).trans g2) (s.fr g.r g2.f) q'⟩
      · obtain ⟨e1, g2⟩ := unlock_n g.r e
        exact ⟨e1, k.ct _ _ _ _ ((g1.trans g).trans g2) (s.fr g.r g2.f) q'⟩
theorem de_lock {e : Expr} {t : RE} (h : DE X e t) : DE X e (dLock t) :=
  PE.weak (pe_lock h) fun σ H Q ⟨τ, G, Qd, a, ⟨p, kvs, q⟩, k⟩ => by
    rcases q with ⟨hp, q⟩ | ⟨hp, q⟩
    · obtain ⟨ks, h1, h2⟩ := a.r p _ hp
      refine ⟨p, .dK ks, h1, True.intro, fun od => ?_⟩
      have g1 := lock_go (od := od) a.r hp (.inl ⟨ks, rfl, h2⟩)
      refine liftE_of (a.go g1) (q od ks) fun v H' d G' g i ⟨e, q'⟩ => ?_
      obtain ⟨e1, g2⟩ := unlock_k g.r e
      exact ⟨e1, k _ _ _ _ ((g1.trans g).trans g2) (i.fr g.r g2.f) q'⟩
    · obtain ⟨xs, h1, h2, h3, h4⟩ := a.r p _ hp
      refine ⟨p, .ext (nφ (bkx X) p xs), h1, True.intro, fun od => ?_⟩
      have g1 := lock_go (od := od) a.r hp (.inr ⟨xs, rfl, h2, h3, h4⟩)
      refine liftE_of (a.go g1) (q od _) fun v H' d G' g i ⟨e, q'⟩ => ?_
      obtain ⟨e1, g2⟩ := unlock_n g.r e
      exact ⟨e1, k _ _ _ _ ((g1.trans g).trans g2) (i.fr g.r g2.f) q'⟩
/-! the keys of a locked dict, in their order -/
def wKeys (t : RE) : RI := fun τ G R => t τ G fun x G1 => ∃ a od u kvs, x = .ref a ∧ G1 a = some (.lk od u kvs) ∧ R (kvs.map (·.1)) (fun G' => G' a = some (.lk od u kvs)) G1
theorem krel_key {K : PySem.W.Frag} {H : Hp} {G : DG} {ks : List (Key × V)} {kvs : List (D × D)} {i : Nat} {k : Key} {v : V} (r : Paired (KRel K H G) ks kvs) (h : ks[i]? = some (k, v)) : (kvs.map (·.1))[i]? = some (keyD k) := by
  obtain ⟨q, hq, h1, _⟩ := paired_get r h
  rw [List.getElem?_map, hq]
  exact congrArg some h1
theorem itk_ok {B : Bk} {a : Addr} {od : Obj} {ks : List (Key × V)} {kvs : List (D × D)} : ItOk B (Itk a od ks) (kvs.map (·.1)) (fun G => G a = some (.lk od (.dK ks) kvs)) (fun H G => Paired (KRel B.K H G) ks kvs) where
  mono := fun H G H' G' R s g => paired_fr s fun _ _ => KRel.fr R g.f
  go := fun i H G R s ok h => by
    rw [List.length_map] at h
    exact ⟨(R a _ ok).1, by rw [Paired.length s]; exact h⟩
  stop := fun i H G R s ok h => by
    rw [List.length_map] at h
    exact ⟨(R a _ ok).1, by rw [Paired.length s, h]; exact Nat.le_refl _⟩
  yld := fun i H G y H' d R s ok hd hy => by
    obtain ⟨e, k, v, hk, ey⟩ := hy
    subst e; subst ey
    have := krel_key s hk
    rw [this] at hd
    cases hd
    exact ⟨key_isD k, .refl R⟩
/-- .. with tuple keys -/
def Itn (B : Bk) (a : Addr) (od : Obj) (xs : List (NestedKey × Addr × Value)) : It :=
  ⟨fun i H => H a = some (.frz od (.ext (nφ B a xs))) ∧ i < xs.length, fun i H x H' => H' = H ∧ ∃ p, xs[i]? = some p ∧ x = .ref p.2.1, fun i H => H a = some (.frz od (.ext (nφ B a xs))) ∧ xs.length ≤ i⟩
theorem frzN {pins : List (Addr × Obj)} {σ : St} {H : Hp} {s : Shared} {B : Bk} {a : Addr} {od : Obj} {xs : List (NestedKey × Addr × Value)} (I : Inv X pins σ H s) (h : H a = some (.frz od (.ext (nφ B a xs)))) :
    s.heap.get? a = some od ∧ od.ExactDict ∧ ∃ es ep, od.data = .dict es ep ∧ es.toList = xs.map (entryOfKey (nestedKind B.P B.w)) := by
  obtain ⟨hg, ⟨o, es, ep, h1, h2, h3, h4, _⟩, _⟩ := I.hok a _ h
  rw [hg] at h1
  cases h1
  exact ⟨hg, h2, es, ep, h3, h4⟩
theorem turn_keysN {B : Bk} {P : Program} {w : World} {K : PySem.W.Frag} {tg : Expr} {a : Addr} {od : Obj} {es : Array DictEntry} {ep : Nat} {xs : List (NestedKey × Addr × Value)} (it : Addr) (hod : od.data = .dict es ep) : L2.Turn P w K tg (Itn B a od xs) [it] it (fun i h => h.IsKeyIter it a i xs.length ep) where
  mem := by simp
  obj := fun i h st b hb => by
    have e : b = it := by simpa using hb
    subst e
    obtain ⟨oi, e, c, dd⟩ := st
    exact ⟨oi, e, fun v z => by rw [dd] at z; cases z⟩
  keep := fun i h h' st k => st.at fun oi e => k it (by simp) oi e
  item := by
    intro X hP hw hK hc i pins s σ H E I hf st hg
    subst hP hw hK
    obtain ⟨hd, hi⟩ := hg
    obtain ⟨f0, f1, f2, f3, f4, f5⟩ := hf it (by simp)
    obtain ⟨hgd, hx, es', ep', hdt, hes⟩ := frzN I hd
    obtain ⟨rfl, rfl⟩ := dict_ep hod hdt
    have hsz : es'.size = xs.length := size_of_entries hes
    obtain ⟨p, hp⟩ : ∃ p, xs[i]? = some p := ⟨xs[i], List.getElem?_eq_getElem hi⟩
    have hen : es'[i]? = some (entryOfKey (nestedKind B.P B.w) p) := by rw [entry_at hes i, hp]; rfl
    refine next_key_item st hgd hdt hsz hen fun h' st' sb => ?_
    have I1 : Inv X pins σ H { s with heap := h' } := I.turned (t' := s.toks) (fun b ob hb e => (sb.2 b hb).trans e) f0 f1 f3 f4 f5
    obtain ⟨oi, e, c, dd⟩ := id st'
    exact ⟨_, rfl, go_of (s := { s with heap := h' }) e c dd (by decide) ⟨.ref p.2.1, H, I1, rfl, ⟨rfl, p, hp, rfl⟩, st', fun b hb => (hf b hb).1⟩⟩
  done := by
    intro X hP hw hK hc i pins s σ H E I hf st hg
    subst hP hw hK
    obtain ⟨hd, hi⟩ := hg
    obtain ⟨f0, f1, f2, f3, f4, f5⟩ := hf it (by simp)
    obtain ⟨hgd, hx, es', ep', hdt, hes⟩ := frzN I hd
    obtain ⟨rfl, rfl⟩ := dict_ep hod hdt
    have hsz : es'.size = xs.length := size_of_entries hes
    exact next_key_end (I.ok.hd hc) st hgd hdt hsz hi fun h' eb => ⟨rfl, I.turned (t' := s.toks) (fun b ob hb e => eb b ob hb e) f0 f1 f3 f4 f5⟩
  self := fun A i s Q E st h => wpAny_pyIter_keyiter st h
theorem itn_ok {B : Bk} {a : Addr} {od : Obj} {xs : List (NestedKey × Addr × Value)} {kvs : List (D × D)} : ItOk B (Itn B a od xs) (kvs.map (·.1)) (fun G => G a = some (.lk od (.ext (nφ B a xs)) kvs)) (fun H G => Paired (NRel B.K H G) xs kvs) where
  mono := fun H G H' G' R s g => paired_fr s fun _ _ => NRel.fr R g.f
  go := fun i H G R s ok h => by
    rw [List.length_map] at h
    exact ⟨(R a _ ok).1, by rw [Paired.length s]; exact h⟩
  stop := fun i H G R s ok h => by
    rw [List.length_map] at h
    exact ⟨(R a _ ok).1, by rw [Paired.length s, h]; exact Nat.le_refl _⟩
  yld := fun i H G y H' d R s ok hd hy => by
    obtain ⟨e, p, hp, ey⟩ := hy
    subst e; subst ey
    obtain ⟨q, hq, h1, h2, h3, h4, h5, _⟩ := paired_get s hp
    rw [List.getElem?_map, hq] at hd
    cases hd
    exact ⟨h5, .refl R⟩
theorem di_keys {tg e : Expr} {t : RE} (h : DE X e t) : DI X tg e (wKeys t) := by
  refine ⟨fun pins s σ H R I ⟨τ, G, Rd, a, q, k⟩ => ?_⟩
  refine thn (h.run pins s σ H (fun x H1 => ∃ p od, x = .ref p ∧ ((∃ ks, H1 p = some (.frz od (.dK ks)) ∧ R (Itk p od ks) H1) ∨ ∃ xs, H1 p = some (.frz od (.ext (nφ (bkx X) p xs))) ∧ (p == sysModules) = false ∧ R (Itn (bkx X) p od xs) H1)) I
    (liftE_of a q fun v H1 x G1 g1 i1 ⟨p, od, u, kvs, ex, hp, q1⟩ => by
      subst ex
      cases i1
      obtain ⟨h1, h2⟩ := g1.r p _ hp
      rcases h2 with ⟨ks, e, h2⟩ | ⟨xs, e, h3, h4, h2⟩
      · subst e
        exact ⟨p, od, rfl, .inl ⟨ks, h1, k _ _ _ _ _ _ g1 h2 itk_ok q1⟩⟩
      · subst e
        exact ⟨p, od, rfl, .inr ⟨xs, h1, h4, k _ _ _ _ _ _ g1 h2 itn_ok q1⟩⟩)) fun u s1 ⟨x, H1, I1, rx, p, od, ex, q⟩ => ?_
  subst ex
  obtain rfl : u = Value.ref p := rx
  rcases q with ⟨ks, hd, q⟩ | ⟨xs, hd, hs, q⟩
  · obtain ⟨hs, hgd, hx, es, ep, vs, hdt, hsz, kv, hm⟩ := I1.frzK hd
    refine iter_keys hs hgd hx hdt (pi_one (tk := s1.toks) I1 _ (turn_keys _ hdt) ⟨_, Heap.get?_push_size _ rfl, rfl, ?_⟩ q)
    rw [hsz] <;> rfl
  · obtain ⟨hgd, hx, es, ep, hdt, hes⟩ := frzN I1 hd
    have hsz : es.size = xs.length := size_of_entries hes
    refine iter_keys hs hgd hx hdt (pi_one (tk := s1.toks) I1 _ (turn_keysN _ hdt) ⟨_, Heap.get?_push_size _ rfl, rfl, ?_⟩ q)
    rw [hsz] <;> rfl
end
end QF
/-! QI: over data: what is walked, whatever it is; what a reading evaluates to. -/
namespace QF
open PySem L2
section
variable {X : Cx}
/-- a list, a tuple, a text, a locked dict -/
def wSeq (t : RE) : RI := fun τ G R => t τ G fun x G1 => (∃ ds, vS G1 x = some ds ∧ R ds (fun G' => vS G' x = some ds) G1) ∨ (∃ ds, x = .tup ds ∧ R ds (fun _ => True) G1) ∨ (∃ z, x = .str z ∧ R (strD z) (fun _ => True) G1)
theorem di_seq {tg e : Expr} {t : RE} (h : DE X e t) : DI X tg e (wSeq t) := by
  refine ⟨fun pins s σ H R I ⟨τ, G, Rd, a, q, k⟩ => ?_⟩
  refine thn (h.run pins s σ H (fun x H1 => (∃ p xs, x = .ref p ∧ SqL X.K H1 p xs ∧ R (Itl X.K p) H1) ∨ (∃ p xs, x = .ref p ∧ SqT X.K H1 p xs ∧ R (Itt X.K p) H1) ∨ (∃ z, x = .str z ∧ R (Its z) H1)) I
    (liftE_of a q fun v H1 x G1 g1 i1 q1 => by
      rcases q1 with ⟨ds, e, q1⟩ | ⟨ds, e, q1⟩ | ⟨z, e, q1⟩
      · obtain ⟨p, vs, rfl, h1, h2⟩ := vS_at g1.r i1 e
        exact .inl ⟨p, vs, rfl, h1, k _ _ _ _ _ _ g1 i1 itl_ok q1⟩
      · subst e
        obtain ⟨p, vs, rfl, h1, h2⟩ := tup_at i1
        exact .inr (.inl ⟨p, vs, rfl, h1, k _ _ _ _ _ _ g1 i1 itt_ok q1⟩)
      · subst e
        cases i1
        exact .inr (.inr ⟨z, rfl, k _ _ _ _ _ _ g1 True.intro its_ok q1⟩))) fun v s1 ⟨x, H1, I1, r1, q1⟩ => ?_
  rcases q1 with ⟨p, xs, e, hq, q⟩ | ⟨p, xs, e, hq, q⟩ | ⟨z, e, q⟩
  · subst e
    cases r1
    obtain ⟨its, rv, pl, hz⟩ := I1.list hq
    exact wpAny_pyIter_list pl.isList (pi_one (tk := s1.toks) I1 _ (turn_list p _) ⟨_, Heap.get?_push_size _ rfl, rfl, rfl⟩ q)
  · subst e
    cases r1
    obtain ⟨its, rv, pl, hz⟩ := I1.tuple hq
    exact wpAny_pyIter_tuple (show s1.heap.IsTuple p its.toArray from pl) (pi_one (tk := s1.toks) I1 _ (turn_tuple p _) ⟨_, Heap.get?_push_size _ rfl, rfl, rfl⟩ q)
  · subst e
    obtain ⟨t, rfl⟩ := r1
    cases ha : z.cps.all (· < 128)
    · exact wpAny_pyIter_wide ha (pi_one (tk := s1.toks) I1 _ (turn_str _ z t "str_iterator" (.inr rfl)) ⟨_, Heap.get?_push_size _ rfl, rfl, rfl⟩ q)
    · exact wpAny_pyIter_ascii ha (pi_one (tk := s1.toks) I1 _ (turn_str _ z t "str_ascii_iterator" (.inl rfl)) ⟨_, Heap.get?_push_size _ rfl, rfl, rfl⟩ q)
/-- enumerate(list or tuple) -/
def wEnumS (t : RA) : RI := fun τ G R => t τ G fun xs G1 => ∃ x ds, xs = [x] ∧ ((vS G1 x = some ds ∧ R (enumD ds) (fun G' => vS G' x = some ds) G1) ∨ (x = .tup ds ∧ R (enumD ds) (fun _ => True) G1))
theorem di_enumS {e : Expr} {t : RA} {p pos tpos : Pos} {elts : List Expr} {kk : Nat} (hm : X.mg "enumerate" = none) (ha : DA X [e] t) (hg : Gl X "enumerate" := by rfl) (hs : starEach [e] X.env = [(false, eval e X.env)] := by rfl) :
    DI X (.Tuple elts kk tpos) (.Call (.Name "enumerate" p) [e] [] pos) (wEnumS t) := by
  refine ⟨fun pins s σ H R I ⟨τ, G, Rd, a, q, k⟩ => ?_⟩
  refine PyProof.Rows.Call_ (ld_blt I hg hm PyProof.Rows.boot_enumerate (PyProof.Rows.callWith_type1 (thn (ha.run pos pins s σ H (fun vs H1 => ∃ p xs, vs = [.ref p] ∧ ((SqL X.K H1 p xs ∧ R (Ite X.K p) H1) ∨ (SqT X.K H1 p xs ∧ R (IteT X.K p) H1))) I
    (liftA_of a q fun vs H1 ds G1 g1 i1 l ⟨x, es, e, q1⟩ => by
      subst e
      obtain ⟨v, rfl, iv⟩ := isds1 i1
      rcases q1 with ⟨ex, q1⟩ | ⟨ex, q1⟩
      · obtain ⟨p, us, rfl, h1, h2⟩ := vS_at g1.r iv ex
        exact ⟨p, us, rfl, .inl ⟨h1, k _ _ _ _ _ _ g1 iv ite_ok q1⟩⟩
      · subst ex
        obtain ⟨p, us, rfl, h1, h2⟩ := tup_at iv
        exact ⟨p, us, rfl, .inr ⟨h1, k _ _ _ _ _ _ g1 iv iteT_ok q1⟩⟩)) fun us s1 ⟨vs, H1, I1, r1, q1⟩ => ?_) hs rfl))
  obtain ⟨p, xs, ex, q1⟩ := q1
  subst ex
  have base : ∀ b, b = s1.heap.objs.size + 1 ∨ b = s1.heap.objs.size → s1.heap.objs.size ≤ b := fun b e' => by
    rcases e' with z | z
    · rw [z]; exact Nat.le_add_right _ _
    · rw [z]; exact Nat.le_refl _
  cases r1 with
  | cons r rr =>
    cases rr
    cases r
    rcases q1 with ⟨hq, q⟩ | ⟨hq, q⟩
    · obtain ⟨its, rv, p', hz⟩ := I1.list hq
      refine call_enumerate_list p'.isList fun h' he hit hsz hk => wpAny_pyIter_enum he ?_
      have I2 : Inv X pins σ H1 { s1 with heap := h' } := I1.kept (t' := s1.toks) hk
      refine ⟨s1.heap.objs.size + 1, [s1.heap.objs.size + 1, s1.heap.objs.size], _, _, H1, rfl, I2, turn_enum p (s1.heap.objs.size + 1) s1.heap.objs.size, ⟨⟨.none, he⟩, hit, Nat.succ_ne_self _⟩, fun b hb => ?_, q⟩
      have hle := base b (by simpa using hb)
      exact I1.fpOk hle (I1.hok.fresh hle)
    · obtain ⟨its, rv, p', hz⟩ := I1.tuple hq
      refine enum_begins1 (begins_tuple p its.toArray) p' fun h' he hit hsz hk => wpAny_pyIter_enum he ?_
      have I2 : Inv X pins σ H1 { s1 with heap := h' } := I1.kept (t' := s1.toks) hk
      refine ⟨s1.heap.objs.size + 1, [s1.heap.objs.size + 1, s1.heap.objs.size], _, _, H1, rfl, I2, turn_enumT p (s1.heap.objs.size + 1) s1.heap.objs.size, ⟨⟨.none, he⟩, ⟨_, hit, rfl, rfl⟩, Nat.succ_ne_self _⟩, fun b hb => ?_, q⟩
      have hle := base b (by simpa using hb)
      exact I1.fpOk hle (I1.hok.fresh hle)
theorem di_range1' {tg a : Expr} {t : RA} {p pos : Pos} (hm : X.mg "range" = none) (h : DA X [a] t) (hg : Gl X "range" := by rfl) (hs : starEach [a] X.env = [(false, eval a X.env)] := by rfl) : DI X tg (.Call (.Name "range" p) [a] [] pos) (wRng1 t) := di_range1 hg hm h hs
theorem di_range2' {tg a b : Expr} {t : RA} {p pos : Pos} (hm : X.mg "range" = none) (h : DA X [a, b] t) (hg : Gl X "range" := by rfl) (hs : starEach [a, b] X.env = [(false, eval a X.env), (false, eval b X.env)] := by rfl) (hs2 : starEach [b] X.env = [(false, eval b X.env)] := by rfl) :
    DI X tg (.Call (.Name "range" p) [a, b] [] pos) (wRng2 t) := di_range2 hg hm h hs hs2
theorem di_zip' {e e2 : Expr} {t : RA} {p pos tpos : Pos} {elts : List Expr} {kk : Nat} (hm : X.mg "zip" = none) (h : DA X [e, e2] t) (hg : Gl X "zip" := by rfl)
    (hs : starEach [e, e2] X.env = (false, eval e X.env) :: starEach [e2] X.env := by rfl) (hpl : (backTo pos (starEach [e2] X.env)).any (·.1) = false := by rfl) :
    DI X (.Tuple elts kk tpos) (.Call (.Name "zip" p) [e, e2] [] pos) (wZip t) := di_zip hg hm h hs hpl
/-- len of anything -/
def iLenA : DRN := fun xs G Q => iLen xs G Q ∨ (∃ a kvs, xs = [.ref a] ∧ (G a = some (.dk kvs) ∨ G a = some (.dn kvs)) ∧ Q (.int kvs.length) G)
theorem cb_lenA : DCB X (.builtin "len") iLenA := cb_len.or cb_lenD
end
end QF
/-! QJ: the rules under short names (as the printed readings call them), and more of them. -/
namespace QF
open PySem L2
theorem _root_.L2.Room.u16 {k : Nat} {A : Around} (r : Room k A) : A.units + 16 < cLine := by have := r.un; omega
theorem _root_.L2.Room.u65 {k : Nat} {A : Around} (r : Room k A) : A.units + 65 < cLine := by have := r.un; omega
section
variable {X : Cx}
theorem de_globI {x : Str} {n : Int} {pos : Pos} (h : ∃ u, X.mg x = some u ∧ RelV (.int n) u) (hg : Gl X x := by rfl) (hd : (x == ("__debug__" : Str)) = false := by decide) : DE X (.Name x pos) (dC (.int n)) := by
  obtain ⟨u, hm, r⟩ := h
  exact de_glob hg hm r (fun _ _ => .int n) hd
theorem de_globS {x : Str} {n : Str} {pos : Pos} (h : ∃ u, X.mg x = some u ∧ RelV (.str n) u) (hg : Gl X x := by rfl) (hd : (x == ("__debug__" : Str)) = false := by decide) : DE X (.Name x pos) (dC (.str n)) := by
  obtain ⟨u, hm, r⟩ := h
  exact de_glob hg hm r (fun _ _ => .str n) hd
abbrev iAddStr : DR2 := fun x y G Q => ∃ a b, x = .str a ∧ y = .str b ∧ a.length + b.length ≤ sizeLine ∧ Q (.str (a ++ b)) G
theorem dadd_str' : DOp X (binaryOp .Add) iAddStr := dadd_str
abbrev iCat : DR2 := fun x y G Q => ∃ a b, vL G x = some a ∧ vL G y = some b ∧ a.length + b.length ≤ sizeLine ∧ Q (.lst (a ++ b)) G
theorem dcat' : DOp X (binaryOp .Add) iCat := dcat
abbrev iRep : DR2 := fun x y G Q => ∃ a n, vL G x = some a ∧ y = .int n ∧ -(2 ^ 63) ≤ n ∧ n < 2 ^ 63 ∧ a.length * n.toNat ≤ sizeLine ∧ Q (.lst (List.replicate n.toNat a).flatten) G
theorem drep' : DOp X (binaryOp .Mult) iRep := drep
/-- tuple + tuple -/
abbrev iCatT : DR2 := fun x y G Q => ∃ a b, x = .tup a ∧ y = .tup b ∧ a.length + b.length ≤ sizeLine ∧ Q (.tup (a ++ b)) G
theorem dcatT : DOp X (binaryOp .Add) iCatT :=
  ⟨_, op_catA, fun H G v u x y Qd Q R i j ⟨a, b, ex, ey, hz, q⟩ k => by
    subst ex; subst ey
    obtain ⟨p, xs, rfl, h1, r1⟩ := tup_at i
    obtain ⟨p', ys, rfl, h2, r2⟩ := tup_at j
    refine ⟨p, p', xs, ys, rfl, rfl, h1, h2, by rw [r1.length, r2.length]; exact hz, fun e => ?_, fun _ e => ?_, fun _ _ l hl => ?_⟩
    · subst e
      cases r1
      exact k _ _ _ _ (.refl R) j q
    · subst e
      cases r2
      rw [List.append_nil] at q
      exact k _ _ _ _ (.refl R) i q
    · obtain ⟨g, z⟩ := new_tup R hl (r1.append r2)
      exact k _ _ _ _ g z q⟩
abbrev iDin : DR2 := fun k x G Q => ∃ kvs, dkv G x k = some kvs ∧ Q (.bl (dgetL kvs k).isSome) G
abbrev iDnotin : DR2 := fun k x G Q => ∃ kvs, dkv G x k = some kvs ∧ Q (.bl (!(dgetL kvs k).isSome)) G
abbrev iSin : DR2 := fun x y G Q => ∃ ds, vLT G y = some ds ∧ okD (vD G x) = true ∧ okL ds = true ∧ Q (.bl (ds.any fun z => deqv z (vD G x))) G
abbrev iSnotin : DR2 := fun x y G Q => ∃ ds, vLT G y = some ds ∧ okD (vD G x) = true ∧ okL ds = true ∧ Q (.bl (!ds.any fun z => deqv z (vD G x))) G
abbrev iTin : DR2 := fun x y G Q => ∃ (c : Nat) (z : Str), x = .str ⟨#[c]⟩ ∧ y = .str z ∧ Q (.bl (decide (c ∈ z.cps.toList))) G
theorem dT_in' : DOp X (compareOp .In) iTin := dT_in
abbrev iIsN : DR2 := fun x y G Q => y = .non ∧ Q (.bl (isNonD x)) G
abbrev iNotN : DR2 := fun x y G Q => y = .non ∧ Q (.bl (!isNonD x)) G
abbrev iAbs : DRN := fun xs G Q => ∃ i, xs = [.int i] ∧ Q (.int (if i < 0 then -i else i)) G
theorem cb_abs' : DCB X (.builtin "abs") iAbs := cb_abs
abbrev iMax2 : DRN := fun xs G Q => ∃ i j, xs = [.int i, .int j] ∧ Q (.int (max i j)) G
theorem cb_max2' (hc : X.calm = true) : DCB X (.builtin "max") iMax2 := cb_max2 hc
abbrev iMin2 : DRN := fun xs G Q => ∃ i j, xs = [.int i, .int j] ∧ Q (.int (min i j)) G
theorem cb_min2' (hc : X.calm = true) : DCB X (.builtin "min") iMin2 := cb_min2 hc
abbrev iInt : DRN := fun xs G Q => (∃ i, xs = [.int i] ∧ Q (.int i) G) ∨ (∃ k, xs = [.bl k] ∧ Q (.int (if k = true then 1 else 0)) G)
theorem cb_int' : DCB X (.type "int") iInt := cb_int
abbrev iSum : DRN := fun xs G Q => ∃ (x : D) (ns : List Int), xs = [x] ∧ vS G x = some (ns.map D.int) ∧ Q (.int ns.sum) G
theorem cb_sum' (hc : X.calm = true) : DCB X (.builtin "sum") iSum := cb_sum hc
abbrev iMaxL : DRN := fun xs G Q => ∃ (x : D) (ns : List Int), xs = [x] ∧ vS G x = some (ns.map D.int) ∧ 0 < ns.length ∧ ∀ m, m ∈ ns → (∀ y, y ∈ ns → y ≤ m) → Q (.int m) G
theorem cb_max' (hc : X.calm = true) : DCB X (.builtin "max") iMaxL := cb_max hc
abbrev iMinL : DRN := fun xs G Q => ∃ (x : D) (ns : List Int), xs = [x] ∧ vS G x = some (ns.map D.int) ∧ 0 < ns.length ∧ ∀ m, m ∈ ns → (∀ y, y ∈ ns → m ≤ y) → Q (.int m) G
theorem cb_min' (hc : X.calm = true) : DCB X (.builtin "min") iMinL := cb_min hc
abbrev iAll : DRN := fun xs G Q => ∃ (x : D) (bs : List Bool), xs = [x] ∧ vS G x = some (bs.map D.bl) ∧ Q (.bl (bs.all id)) G
theorem cb_all' (hc : X.calm = true) : DCB X (.builtin "all") iAll := cb_all hc
abbrev iAny : DRN := fun xs G Q => ∃ (x : D) (bs : List Bool), xs = [x] ∧ vS G x = some (bs.map D.bl) ∧ Q (.bl (bs.any id)) G
theorem cb_any' (hc : X.calm = true) : DCB X (.builtin "any") iAny := cb_any hc
abbrev iTuple : DRN := fun xs G Q => ∃ x, xs = [x] ∧ ((∃ ds, vS G x = some ds ∧ Q (.tup ds) G) ∨ (∃ ds, x = .tup ds ∧ Q (.tup ds) G))
theorem cb_tuple' : DCB X (.type "tuple") iTuple := cb_tuple
abbrev iList : DRN := fun xs G Q => ∃ x ds, xs = [x] ∧ (vS G x = some ds ∨ x = .tup ds) ∧ Q (.lst ds) G
theorem cb_list' : DCB X (.type "list") iList := cb_list
abbrev iAppend : DRM := fun x ds G Q => ∃ l as y, x = .ref l ∧ ds = [y] ∧ G l = some (.lst as) ∧ as.length < sizeLine ∧ Q .non (up G l (.lst (as ++ [y])))
theorem dm_append' : DMt X "list.append" iAppend := dm_append
abbrev iExtend : DRM := fun x ds G Q => ∃ l as y bs, x = .ref l ∧ ds = [y] ∧ G l = some (.lst as) ∧ vL G y = some bs ∧ as.length + bs.length ≤ sizeLine ∧ Q .non (up G l (.lst (as ++ bs)))
theorem dm_extend' : DMt X "list.extend" iExtend := dm_extend
abbrev iPop : DRM := fun x ds G Q => ∃ l as y, x = .ref l ∧ ds = [] ∧ G l = some (.lst as) ∧ as[as.length - 1]? = some y ∧ Q y (up G l (.lst as.dropLast))
theorem dm_pop' : DMt X "list.pop" iPop := dm_pop
abbrev iIndexS : DRM := fun x ds G Q => ∃ a b n, x = .str a ∧ ds = [.str b] ∧ Txt.index0 a b = some n ∧ Q (.int (n : Nat)) G
theorem dm_index' (hc : X.calm = true) : DMt X "str.index" iIndexS := dm_index hc
/-- xs.count(i), ints -/
abbrev iCount : DRM := fun x ds G Q => ∃ (ns : List Int) (k : Int), vS G x = some (ns.map D.int) ∧ ds = [.int k] ∧ Q (.int (ns.count k : Nat)) G
theorem dm_count : DMt X "list.count" iCount :=
  ⟨_, mt_lcount, fun H G v x vs ds Qd Q R i is ⟨ns, k, h, ed, q⟩ kk => by
    subst ed
    obtain ⟨u, rfl, iu⟩ := isds1 is
    cases iu
    obtain ⟨p, us, rfl, hp, r⟩ := vS_at R i h
    rw [ints_vs r] at hp
    exact ⟨p, ns, k, rfl, rfl, hp, kk _ _ _ _ (.refl R) (.int _) q⟩⟩
/-- xs[::-1] -/
def dRev (te : RE) : RE := fun τ G Q => te τ G fun x G1 => ∃ ds, vS G1 x = some ds ∧ Q (.lst ds.reverse) G1
theorem de_rev {e : Expr} {te : RE} {k : Nat} {p1 p2 p3 pos : Pos} (he : DE X e te) : DE X (.Subscript e (.Slice none none (some (.UnaryOp .USub (.Constant (.int 1) k p1) p2)) p3) pos) (dRev te) :=
  PE.weak (pe_revL he) fun σ H Q ⟨τ, G, Qd, a, q, k⟩ => liftE_of a q fun v H1 x G1 g1 i1 ⟨ds, h, q1⟩ => by
    obtain ⟨p, us, rfl, hp, r⟩ := vS_at g1.r i1 h
    exact ⟨p, us, rfl, hp, fun l hl => by
      obtain ⟨g, z⟩ := new_lst g1.r hl r.reverse
      exact k _ _ _ _ (g1.trans g) z q1⟩
/-- t[lo:hi] of a tuple -/
def dSliceT (te : RE) (tl th : RO) : RE := fun τ G Q => te τ G fun x G1 => tl τ G1 fun lo G2 => th τ G2 fun hi G3 => ∃ ds, x = .tup ds ∧ Q (.tup (cutD ds lo hi)) G3
theorem cutD_whole {ds : List D} {lo hi : Option Int} (h : HT.sIx ds.length 0 lo = 0 ∧ HT.sIx ds.length ds.length hi = ds.length) : cutD ds lo hi = ds := by
  unfold cutD
  rw [h.1, h.2]
  simp
theorem de_sliceT {e : Expr} {lo hi : Option Expr} {p2 pos : Pos} {te : RE} {tl th : RO} (he : DE X e te) (hl : DO' X lo tl) (hu : DO' X hi th) : DE X (.Subscript e (.Slice lo hi none p2) pos) (dSliceT te tl th) :=
  PE.weak (pe_slice sl_tupA he hl hu) fun σ H Q ⟨τ, G, Qd, a, q, k⟩ => liftE_of a q fun v H1 x G1 g1 i1 q1 => liftO_of (a.go g1) q1 fun l H2 G2 g2 q2 => liftO_of ((a.go g1).go g2) q2 fun h H3 G3 g3 ⟨ds, e, q3⟩ => by
    subst e
    have i3 := (i1.fr g1.r g2.f).fr g2.r g3.f
    obtain ⟨p, us, rfl, hp, r⟩ := tup_at i3
    refine ⟨p, us, rfl, hp, fun w => ?_, fun _ l' hl' => ?_⟩
    · rw [r.length] at w
      rw [cutD_whole w] at q3
      exact k _ _ _ _ ((g1.trans g2).trans g3) i3 q3
    · obtain ⟨g, z⟩ := new_tup g3.r hl' (cut_ds r l h)
      exact k _ _ _ _ (((g1.trans g2).trans g3).trans g) z q3
theorem di_range3' {tg a b c : Expr} {t : RA} {p pos : Pos} (hm : X.mg "range" = none) (ha : DA X [a, b, c] t) (hg : Gl X "range" := by rfl)
    (hs : starEach [a, b, c] X.env = (false, eval a X.env) :: starEach [b, c] X.env := by rfl) (hpl : (backTo pos (starEach [b, c] X.env)).any (·.1) = false := by rfl) : DI X tg (.Call (.Name "range" p) [a, b, c] [] pos) (wRng3 t) :=
  di_range3 (tA := t) (pi_range3 hg hm ha hs hpl)
/-- list(..), changed later -/
abbrev iListM : DRN := fun xs G Q => ∃ x ds, xs = [x] ∧ (vS G x = some ds ∨ x = .tup ds) ∧ ∀ l, G l = none → Q (.ref l) (up G l (.lst ds))
theorem cb_listM : DCB X (.type "list") iListM :=
  ⟨_, call_list_of, fun H G vs ds Qd Q R i ⟨x, ds', e, h, q⟩ k => by
    subst e
    obtain ⟨v, rfl, iv⟩ := isds1 i
    rcases h with h | h
    · obtain ⟨p, us, rfl, hp, r⟩ := vS_at R iv h
      exact ⟨p, us, rfl, .inl hp, fun l hl => k _ _ _ _ (new_lstM R hl r) (.ref l) (q l (R.free hl))⟩
    · subst h
      obtain ⟨p, us, rfl, hp, r⟩ := tup_at iv
      exact ⟨p, us, rfl, .inr hp, fun l hl => k _ _ _ _ (new_lstM R hl r) (.ref l) (q l (R.free hl))⟩⟩
/-- sorted(a list of ints) -/
abbrev iSortI : DRN := fun xs G Q => ∃ (x : D) (ns : List Int), xs = [x] ∧ vS G x = some (ns.map D.int) ∧ ∀ (ms : List Int), ms.Perm ns → ms.Pairwise (fun a b => a ≤ b) → Q (.lst (ms.map D.int)) G
theorem cb_sortI (hu : X.A.units + 64 < cLine) : DCB X (.builtin "sorted") iSortI :=
  ⟨_, cr_sortedI, fun H G vs ds Qd Q R i ⟨x, ns, e, h, q⟩ k => by
    subst e
    obtain ⟨v, rfl, iv⟩ := isds1 i
    obtain ⟨p, us, rfl, hp, r⟩ := vS_at R iv h
    rw [ints_vs r] at hp
    exact ⟨p, ns, rfl, hp, fun ms l h1 h2 hl => by
      obtain ⟨g, z⟩ := new_lst (ds := ms.map D.int) R hl (ints_ds ms)
      exact k _ _ _ _ g z (q ms h1 h2)⟩⟩
end
end QF
/-! QK: sorted, min, max of tuples of ints; sorted, list, tuple of dicts. -/
namespace QF
open PySem L2
/-- by the first place where they differ -/
def lexL : List Int → List Int → Bool
  | [], [] => false
  | [], _ :: _ => true
  | _ :: _, [] => false
  | a :: as, b :: bs => if a = b then lexL as bs else decide (a < b)
theorem lexL_asym : ∀ x y, lexL x y = true → lexL y x = false
  | [], [], h => by cases h
  | [], _ :: _, _ => rfl
  | _ :: _, [], h => by cases h
  | a :: as, b :: bs, h => by
    unfold lexL at h ⊢
    by_cases e : a = b
    · rw [if_pos e] at h
      rw [if_pos e.symm]
      exact lexL_asym as bs h
    · rw [if_neg e, decide_eq_true_eq] at h
      rw [if_neg (fun z => e z.symm), decide_eq_false_iff_not]
      omega
theorem lexL_tr : ∀ x y z, lexL y x = false → lexL z y = false → lexL z x = false
  | [], [], z, _, h => h
  | [], b :: bs, [], _, _ => rfl
  | [], b :: bs, c :: cs, _, _ => rfl
  | a :: as, [], z, h, _ => by cases h
  | a :: as, b :: bs, [], _, h => by cases h
  | a :: as, b :: bs, c :: cs, h1, h2 => by
    unfold lexL at h1 h2 ⊢
    by_cases e1 : b = a
    · subst e1
      rw [if_pos rfl] at h1
      by_cases e2 : c = b
      · subst e2
        rw [if_pos rfl] at h2 ⊢
        exact lexL_tr as bs cs h1 h2
      · rw [if_neg e2] at h2 ⊢
        exact h2
    · rw [if_neg e1, decide_eq_false_iff_not] at h1
      by_cases e2 : c = b
      · subst e2
        rw [if_neg e1, decide_eq_false_iff_not]
        exact h1
      · rw [if_neg e2, decide_eq_false_iff_not] at h2
        have e3 : ¬ c = a := by omega
        rw [if_neg e3, decide_eq_false_iff_not]
        omega
theorem lexL_self : ∀ x, lexL x x = false
  | [] => rfl
  | a :: as => by unfold lexL; rw [if_pos rfl]; exact lexL_self as
theorem lexL_eq : ∀ x y, x.length = y.length → lexL x y = false → lexL y x = false → x = y
  | [], [], _, _, _ => rfl
  | [], _ :: _, h, _, _ => by simp at h
  | _ :: _, [], h, _, _ => by simp at h
  | a :: as, b :: bs, h, h1, h2 => by
    unfold lexL at h1 h2
    by_cases e : a = b
    · subst e
      rw [if_pos rfl] at h1 h2
      rw [lexL_eq as bs (by simpa using h) h1 h2]
    · rw [if_neg e, decide_eq_false_iff_not] at h1
      rw [if_neg (fun z => e z.symm), decide_eq_false_iff_not] at h2
      omega
theorem swo_lexL {α : Type} (k : α → List Int) : SrtO.Swo fun v u => lexL (k v) (k u) := ⟨fun x y => lexL_asym _ _, fun x y z => lexL_tr _ _ _⟩
def tupI (ns : List Int) : D := .tup (ns.map D.int)
section
open PyProof.Rows SrtO
variable {prog : Program} {w : World} {A : Around} {E : Value → Shared → Prop} {s : Shared}
theorem kat_ints {fin : Bool} : ∀ (xs ys : List Int) (us vs : List Value) (i : Nat) (Q : Bool → Shared → Prop), IntsAre us xs → IntsAre vs ys → xs.length = ys.length → fin = false → Q (lexL xs ys) s → PySem.W.KatLex prog w A true fin Q (us.zip vs) i s
  | [], [], _, _, i, Q, .nil, .nil, _, hf, q => PySem.W.kat_nil (by rw [hf]; exact q)
  | [], _ :: _, _, _, _, _, _, _, h, _, _ => by simp at h
  | _ :: _, [], _, _, _, _, _, _, h, _, _ => by simp at h
  | a :: as, b :: bs, _, _, i, Q, .cons _ t r, .cons _ t' r', h, hf, q => by
    refine PySem.W.kat_cons (SeqAt.EqAt.int_int a t b t' prog w _ _ ?_)
    unfold lexL at q
    refine PySem.W.kat_go (fun e1 => ?_) (fun e1 => ?_)
    · have ex : a = b := by simpa using e1
      rw [if_pos ex] at q
      exact PySem.W.kat_yes (kat_ints as bs _ _ _ Q r r' (by simpa using h) hf q)
    · have ex : ¬ a = b := by simpa using e1
      rw [if_neg ex] at q
      refine PySem.W.kat_no ?_
      exact TS.oneLt_ints _ q
theorem tups_cmp {vs : List Value} {k : Value → List Int} {d : Nat} (hp : ∀ v ∈ vs, TS.TupInts s.heap v (k v) ∧ (k v).length = d) : Cmp prog w A s (tuples' true) (fun p => p.1 ∈ vs) (lt2 fun v u => lexL (k v) (k u)) := by
  intro p q hm hm'
  obtain ⟨h1, d1⟩ := hp _ hm
  obtain ⟨h2, d2⟩ := hp _ hm'
  obtain ⟨a, xs, e, ⟨o, ho, hc, n, hd⟩, i1⟩ := h1
  obtain ⟨a', ys, e', ⟨o', ho', hc', n', hd'⟩, i2⟩ := h2
  show wpAny (model prog w) A (keyLt' (tuples' true) p.1 q.1) (fun r s' => s' = s ∧ r = lexL (k p.1) (k q.1)) (fun _ _ => False) s
  generalize k p.1 = x at i1 d1 ⊢
  generalize k q.1 = y at i2 d2 ⊢
  rw [e, e']
  refine PySem.W.kat_lt ho hd ho' hd' ?_
  have l1 := i1.length
  have l2 := i2.length
  refine kat_ints x y _ _ 0 _ i1 i2 (by omega) ?_ ⟨rfl, rfl⟩
  rw [decide_eq_false_iff_not, ← Array.length_toList, ← Array.length_toList]
  omega
theorem firsts_tups {h : Heap} {k : Value → List Int} {d : Nat} : ∀ {vs : List Value}, (∀ v ∈ vs, TS.TupInts h v (k v) ∧ (k v).length = d + 1) → ∃ fs, PySem.W.KatTups h vs fs ∧ fs.length = vs.length ∧ ∀ f ∈ fs, ∃ x t, f = Value.int x t
  | [], _ => ⟨[], .nil, rfl, fun f hf => by cases hf⟩
  | v :: vs, hp => by
    obtain ⟨fs, h1, h2, h3⟩ := firsts_tups (vs := vs) fun u hu => hp u (List.mem_cons_of_mem _ hu)
    obtain ⟨⟨a, xs, e, ⟨o, ho, hc, n, hd⟩, i1⟩, hl⟩ := hp v List.mem_cons_self
    subst e
    generalize k (.ref a) = x at i1 hl
    cases x with
    | nil => simp at hl
    | cons b bs =>
      cases hx : xs.toList with
      | nil => rw [hx] at i1; cases i1
      | cons u us =>
        rw [hx] at i1
        cases i1 with
        | cons _ t r =>
          refine ⟨.int b t :: fs, .cons ho hc hd (by rw [← Array.getElem?_toList, hx]; rfl) h1, by simp [h2], fun f hf => ?_⟩
          rcases List.mem_cons.mp hf with e | hf
          · exact ⟨b, t, e⟩
          · exact h3 f hf
theorem tups_sortableO {a : Addr} {vs : List Value} {k : Value → List Int} {d : Nat} (h0 : 0 < vs.length) (hp : ∀ v ∈ vs, TS.TupInts s.heap v (k v) ∧ (k v).length = d + 1) (ha : ∀ o, s.heap.get? a = some o → o.cls ≠ .type "tuple") : SortableO prog w A s a vs fun v u => lexL (k v) (k u) := by
  intro h' keep
  have hp' : ∀ v ∈ vs, TS.TupInts h' v (k v) ∧ (k v).length = d + 1 := fun v hm => ⟨(hp v hm).1.keeps fun b o e c => keep b o (fun z => by subst z; exact ha o e c) e, (hp v hm).2⟩
  obtain ⟨fs, h1, h2, h3⟩ := firsts_tups hp'
  refine ⟨tuples' true, fun Q E hq => ?_, tups_cmp hp'⟩
  refine PySem.W.kat_kind (T := .type "int") h1 (by omega) (fun f hm => ?_) (by rfl) ?_
  · obtain ⟨x, t, rfl⟩ := h3 f hm
    exact PySem.W.Looks.now
  · have e : (Value.type "int" != Value.type "tuple") = true := by first | decide +kernel | rfl | decide
    rw [e]
    exact hq
theorem pairs_zip {h : Heap} {k : Value → List Int} : ∀ {its : List Value} {vs : List V} {ts : List (List Int)}, Vals vs its → vs.length = ts.length → (∀ (i : Nat) (v : V) (t : List Int), vs[i]? = some v → ts[i]? = some t → ∀ u, its[i]? = some u → k u = t ∧ bkV u = v) →
    vs.zip ts = its.map fun u => (bkV u, k u)
  | _, _, [], .nil, _, _ => rfl
  | _, _, _ :: _, .nil, h, _ => by simp at h
  | _, _, [], .cons _ _, h, _ => by simp at h
  | u :: its, v :: vs, t :: ts, .cons r rr, hl, hk => by
    obtain ⟨e1, e2⟩ := hk 0 v t rfl rfl u rfl
    rw [List.zip_cons_cons, List.map_cons, e1, e2, pairs_zip (h := h) rr (by simpa using hl) fun i v t a b u c => hk (i + 1) v t (by simpa using a) (by simpa using b) u (by simpa using c)]
end
/-- every one of these is a tuple of d + 1 ints -/
def TupsI (K : PySem.W.Frag) (H : Hp) (d : Nat) (vs : List V) (ts : List (List Int)) : Prop := vs.length = ts.length ∧ ∀ (i : Nat) (v : V) (t : List Int), vs[i]? = some v → ts[i]? = some t → t.length = d + 1 ∧ TupI K H v t
def rSortLx (K : PySem.W.Frag) : List V → Hp → VK → Prop := fun xs H Q => ∃ (a : Addr) (vs : List V) (ts : List (List Int)) (d : Nat), xs = [V.ref a] ∧ SqL K H a vs ∧ TupsI K H d vs ts ∧
  ∀ (ps : List (V × List Int)) (p : Addr), ps.Perm (vs.zip ts) → ps.Pairwise (fun a b => lexL b.2 a.2 = false) → H p = none → Q (.ref p) (upd H p (.lst (ps.map (·.1))))
section
variable {X : Cx} {pins : List (Addr × Obj)} {σ : St} {H : Hp} {s : Shared}
theorem vals_at : ∀ {vs : List V} {us : List Value} {i : Nat} {v : V} {u : Value}, Vals vs us → vs[i]? = some v → us[i]? = some u → RelV v u
  | _, _, _, _, _, .nil, h, _ => by simp at h
  | _, _, 0, _, _, .cons r _, h, h' => by simp at h h'; subst h; subst h'; exact r
  | _, _, i + 1, _, _, .cons _ rr, h, h' => vals_at rr (by simpa using h) (by simpa using h')
theorem tupsI_zip (I : Inv X pins σ H s) {d : Nat} {vs : List V} {ts : List (List Int)} {its : List Value} (h : TupsI X.K H d vs ts) (rv : Vals vs its) :
    (vs.zip ts = its.map fun u => (bkV u, TS.intsOf s.heap u)) ∧ (∀ u ∈ its, ∃ a, u = Value.ref a) ∧ ∀ u ∈ its, TS.TupInts s.heap u (TS.intsOf s.heap u) ∧ (TS.intsOf s.heap u).length = d + 1 := by
  have key : ∀ (i : Nat) (v : V) (t : List Int), vs[i]? = some v → ts[i]? = some t → ∀ u, its[i]? = some u → (∃ a, u = Value.ref a) ∧ TS.TupInts s.heap u t ∧ t.length = d + 1 ∧ bkV u = v := fun i v t hv ht u hu => by
    obtain ⟨hd, b, e, hb⟩ := h.2 i v t hv ht
    subst e
    have := vals_at rv hv hu
    obtain rfl : u = Value.ref b := this
    exact ⟨⟨b, rfl⟩, tupI_raw I hb, hd, rfl⟩
  have all : ∀ u ∈ its, ∃ t, (∃ a, u = Value.ref a) ∧ TS.TupInts s.heap u t ∧ t.length = d + 1 := fun u hu => by
    obtain ⟨i, hi, e⟩ := List.getElem_of_mem hu
    have l1 := rv.length
    have hv : i < vs.length := by omega
    have ht : i < ts.length := by rw [← h.1]; exact hv
    obtain ⟨a1, a2, a3, _⟩ := key i vs[i] ts[i] (by simp [hv]) (by simp [ht]) u (by rw [List.getElem?_eq_getElem hi, e])
    exact ⟨_, a1, a2, a3⟩
  refine ⟨pairs_zip (h := s.heap) rv h.1 fun i v t hv ht u hu => ?_, fun u hu => ?_, fun u hu => ?_⟩
  · obtain ⟨_, a2, _, a4⟩ := key i v t hv ht u hu
    exact ⟨a2.ints, a4⟩
  · obtain ⟨t, a1, _⟩ := all u hu
    exact a1
  · obtain ⟨t, _, a2, a3⟩ := all u hu
    rw [a2.ints]
    exact ⟨a2, a3⟩
theorem bkV_vals' {us : List Value} {k : Value → List Int} (h : ∀ u ∈ us, ∃ a, u = Value.ref a) : Vals ((us.map fun u => (bkV u, k u)).map (·.1)) us := by
  rw [List.map_map]
  exact bkV_vals h
theorem cr_sortLx : CallR X (.builtin "sorted") (rSortLx X.K) := by
  intro pins s σ H vs us Q I r h
  obtain ⟨a, xs, ts, d, rfl, hs, ht, q⟩ := h
  obtain ⟨its, rv, hl, hz⟩ := I.list hs
  rw [Vals.ref1 r]
  obtain ⟨e1, e2, e3⟩ := tupsI_zip I ht rv
  refine SrtO.sorted_ord (swo_lexL (TS.intsOf s.heap)) hl.isList (by rw [← rv.length]; exact hz) (fun h2 h₁ a' ha kk => ?_) fun out h1 h2 => ?_
  · refine tups_sortableO (s := { s with heap := h₁ }) (d := d) (by omega) (fun v hv => ⟨(e3 v hv).1.keeps fun b o e _ => (kk b o e).2, (e3 v hv).2⟩) fun o e => ?_
    have e' : some o = some (PyProof.Rows.seqObj "list" its.toArray 0) := e.symm.trans ha
    cases e'
    intro c
    exact absurd (Value.type.inj c) (by decide)
  · obtain ⟨ep, he'⟩ := PyProof.Rows.sortedAll_at s.heap its out.toArray
    have h3 : ∀ u ∈ out, ∃ a, u = Value.ref a := fun u hu => e2 u (h2.perm.mem_iff.mp hu)
    have hp : (out.map fun u => (bkV u, TS.intsOf s.heap u)).Perm (xs.zip ts) := by
      rw [e1]
      exact h2.perm.map _
    refine ⟨.ref _, upd H (s.heap.objs.size + 1) (.lst ((out.map fun u => (bkV u, TS.intsOf s.heap u)).map (·.1))), I.laid (t' := s.toks) (fun _ _ => PyProof.Rows.sortedAll_old) (Nat.le_succ _) ⟨?_, out, ep, bkV_vals' h3, he'⟩, rfl, q _ _ hp ?_ (I.hok.fresh (Nat.le_succ _))⟩
    · rw [List.length_map, List.length_map, h2.perm.length_eq, ← rv.length]
      exact hz
    · exact List.pairwise_map.mpr h1
/-- data of it -/
theorem tupsI_of {K : PySem.W.Frag} {H : Hp} {G : DG} {d : Nat} : ∀ {vs : List V} {ts : List (List Int)}, IsDs K H G vs (ts.map tupI) → (∀ t ∈ ts, t.length = d + 1) → TupsI K H d vs ts := fun {vs ts} i hd => by
  refine ⟨by have := i.length; simpa using this, fun j v t hv ht => ⟨hd t (List.mem_of_getElem? ht), ?_⟩⟩
  obtain ⟨d', hd', iv⟩ := i.getV hv
  rw [List.getElem?_map, ht] at hd'
  cases hd'
  obtain ⟨p, us, rfl, hp, r⟩ := tup_at iv
  rw [ints_vs r] at hp
  exact ⟨p, rfl, hp⟩
theorem isDs_ps {K : PySem.W.Frag} {H : Hp} {G : DG} {vs : List V} {ts : List (List Int)} (i : IsDs K H G vs (ts.map tupI)) : ∀ {ps : List (V × List Int)}, (∀ p ∈ ps, p ∈ vs.zip ts) → IsDs K H G (ps.map (·.1)) ((ps.map (·.2)).map tupI)
  | [], _ => .nil
  | p :: ps, h => by
    refine .cons ?_ (isDs_ps i fun x hx => h x (List.mem_cons_of_mem _ hx))
    obtain ⟨j, hj⟩ := List.mem_iff_getElem?.mp (h p List.mem_cons_self)
    obtain ⟨h1, h2⟩ := List.getElem?_zip_eq_some.mp hj
    obtain ⟨d', hd', iv⟩ := i.getV h1
    rw [List.getElem?_map, h2] at hd'
    cases hd'
    exact iv
theorem snd_zip {α β : Type} : ∀ {xs : List α} {ys : List β}, xs.length = ys.length → (xs.zip ys).map (·.2) = ys
  | [], [], _ => rfl
  | [], _ :: _, h => by simp at h
  | _ :: _, [], h => by simp at h
  | x :: xs, y :: ys, h => by rw [List.zip_cons_cons, List.map_cons, snd_zip (by simpa using h)]
/-- sorted(a list of tuples of ints) -/
abbrev iSortT : DRN := fun xs G Q => ∃ (x : D) (ts : List (List Int)) (d : Nat), xs = [x] ∧ vS G x = some (ts.map tupI) ∧ (∀ t ∈ ts, t.length = d + 1) ∧ ∀ us : List (List Int), us.Perm ts → us.Pairwise (fun a b => lexL b a = false) → Q (.lst (us.map tupI)) G
theorem cb_sortT (hu : X.A.units + 64 < cLine) : DCB X (.builtin "sorted") iSortT :=
  ⟨_, cr_sortLx, fun H G vs ds Qd Q R i ⟨x, ts, d, e, h, hd, q⟩ k => by
    subst e
    obtain ⟨v, rfl, iv⟩ := isds1 i
    obtain ⟨p, us, rfl, hp, r⟩ := vS_at R iv h
    have hT := tupsI_of r hd
    refine ⟨p, us, ts, d, rfl, hp, hT, fun ps l h1 h2 hl => ?_⟩
    obtain ⟨g, z⟩ := new_lst (ds := (ps.map (·.2)).map tupI) R hl (isDs_ps r fun y hy => h1.mem_iff.mp hy)
    refine k _ _ _ _ g z (q _ ?_ (List.pairwise_map.mpr h2))
    have := h1.map (·.2)
    rw [snd_zip hT.1] at this
    exact this⟩

/-! ### min of tuples of ints -/
theorem tupI_py (z : List Int) : (tupI z).py = .tuple (z.map PyData.int) := by
  show PyData.tuple (D.pys (z.map D.int)) = _
  congr 1
  induction z with
  | nil => rfl
  | cons a as ih => show D.py (.int a) :: D.pys (as.map D.int) = _; rw [ih]; rfl
theorem dataLt_tups (x y : List Int) : PySem.W.dataLt (tupI x).py (tupI y).py = lexL x y := by
  rw [tupI_py, tupI_py]
  show PyProof.Rows.lexLt PyProof.Rows.itemOrd (PySem.W.keyToksAll (x.map PySem.W.Datum.toD)) (PySem.W.keyToksAll (y.map PySem.W.Datum.toD)) = _
  rw [PySem.W.lexAll_map]
  induction x generalizing y with
  | nil => cases y <;> rfl
  | cons a as ih =>
    cases y with
    | nil => rfl
    | cons b bs =>
      unfold PySem.W.listLt lexL
      by_cases h : a = b
      · rw [if_pos h, if_pos h]; exact ih bs
      · rw [if_neg h, if_neg h]; rfl
/-- the least of x and xs -/
def minT (x : List Int) (xs : List (List Int)) : List Int := xs.foldl (fun a y => if lexL y a then y else a) x
theorem minD_tups (x : List Int) (xs : List (List Int)) : PySem.W.minD (tupI x).py (xs.map fun t => (tupI t).py) = (tupI (minT x xs)).py := by
  induction xs generalizing x with
  | nil => rfl
  | cons y ys ih =>
    show PySem.W.minD (if PySem.W.dataLt (tupI y).py (tupI x).py then (tupI y).py else (tupI x).py) (ys.map fun t => (tupI t).py) = (tupI (minT (if lexL y x then y else x) ys)).py
    rw [dataLt_tups]
    by_cases h : lexL y x = true
    · rw [if_pos h, if_pos h]; exact ih y
    · rw [if_neg h, if_neg h]; exact ih x
theorem lexL_trans {x y z : List Int} (h1 : lexL x y = false) (h2 : lexL y z = false) : lexL x z = false := lexL_tr z y x h2 h1
theorem minT_spec (x : List Int) (xs : List (List Int)) : minT x xs ∈ x :: xs ∧ ∀ t ∈ x :: xs, lexL t (minT x xs) = false := by
  induction xs generalizing x with
  | nil => exact ⟨List.mem_cons_self, fun t ht => by rw [List.mem_singleton.mp ht]; exact lexL_self x⟩
  | cons y ys ih =>
    have e : minT x (y :: ys) = minT (if lexL y x then y else x) ys := rfl
    rw [e]
    by_cases h : lexL y x = true
    · rw [if_pos h]
      obtain ⟨h1, h2⟩ := ih y
      refine ⟨List.mem_cons_of_mem _ h1, fun t ht => ?_⟩
      rcases List.mem_cons.mp ht with e | ht
      · subst e
        exact lexL_trans (lexL_asym y t h) (h2 y List.mem_cons_self)
      · exact h2 t ht
    · rw [if_neg h]
      obtain ⟨h1, h2⟩ := ih x
      refine ⟨by rcases List.mem_cons.mp h1 with e | h1
                 · rw [e]; exact List.mem_cons_self
                 · exact List.mem_cons_of_mem _ (List.mem_cons_of_mem _ h1), fun t ht => ?_⟩
      rcases List.mem_cons.mp ht with e | ht
      · rw [e]; exact h2 x List.mem_cons_self
      rcases List.mem_cons.mp ht with e | ht
      · rw [e]; exact lexL_trans (by simpa using h) (h2 x List.mem_cons_self)
      · exact h2 t (List.mem_cons_of_mem _ ht)
theorem ints_reads {h : Heap} : ∀ {ns : List Int} {us : List Value} {as : List Addr}, ReadsAll h us (ns.map PyData.int) as → PyProof.Rows.IntsAre us ns
  | [], _, _, .nil => .nil
  | n :: ns, _, _, .cons r rr => by
    cases r
    exact .cons _ _ (ints_reads rr)
theorem tupI_reads {h : Heap} {v : Value} {z : List Int} {as : List Addr} (r : Reads h v (tupI z).py as) : TS.TupInts h v z := by
  rw [tupI_py] at r
  cases r with
  | tuple h1 h2 h3 h4 => exact ⟨_, _, rfl, ⟨_, h1, h2, _, h3⟩, ints_reads h4⟩
theorem reads_ints {h : Heap} : ∀ {ns : List Int} {us : List Value}, PyProof.Rows.IntsAre us ns → ∃ as, ReadsAll h us (ns.map PyData.int) as
  | _, _, .nil => ⟨_, .nil⟩
  | _, _, .cons n t r => let ⟨as, h⟩ := reads_ints r; ⟨_, .cons (.int n t) h⟩
theorem reads_tups {h : Heap} {k : Value → List Int} : ∀ {us : List Value}, (∀ u ∈ us, TS.TupInts h u (k u)) → ∃ as, ReadsAll h us (us.map fun u => (tupI (k u)).py) as
  | [], _ => ⟨_, .nil⟩
  | u :: us, hk => by
    obtain ⟨as, r⟩ := reads_tups (us := us) fun v hv => hk v (List.mem_cons_of_mem _ hv)
    obtain ⟨a, xs, e, ⟨o, ho, hc, n, hd⟩, i⟩ := hk u List.mem_cons_self
    obtain ⟨bs, r2⟩ := reads_ints (h := h) i
    refine ⟨_, .cons (as := bs) ?_ r⟩
    show Reads h u (tupI (k u)).py bs
    rw [tupI_py]
    generalize k u = z at r2 ⊢
    subst e
    exact .tuple ho hc hd r2
theorem alike_ints : ∀ (x y : List Int), PySem.W.alikeAll (x.map PyData.int) (y.map PyData.int) = true := fun x y => PySem.W.alikeAll_map (α := Int) x y
theorem alike_tups (ts : List (List Int)) : PySem.W.AlikeAll (ts.map fun t => (tupI t).py) := by
  refine ⟨fun x hx y hy => ?_, fun x hx => ?_⟩
  · obtain ⟨a, _, rfl⟩ := List.mem_map.mp hx
    obtain ⟨b, _, rfl⟩ := List.mem_map.mp hy
    rw [tupI_py, tupI_py]
    exact alike_ints a b
  · obtain ⟨a, _, rfl⟩ := List.mem_map.mp hx
    rw [tupI_py]
    exact fun z => nomatch z
theorem depth_ints : ∀ (x : List Int), PyData.depthAll (x.map PyData.int) ≤ 1
  | [] => by simp [PyData.depthAll]
  | a :: as => by
    have := depth_ints as
    simp only [List.map_cons, PyData.depthAll, PyData.depth]
    omega
theorem depth_tups : ∀ (ts : List (List Int)), PyData.depthAll (ts.map fun t => (tupI t).py) ≤ 2
  | [] => by simp [PyData.depthAll]
  | a :: as => by
    have h1 := depth_tups as
    have h2 := depth_ints a
    rw [List.map_cons, tupI_py]
    simp only [PyData.depthAll, PyData.depth]
    omega
def rMinLx (K : PySem.W.Frag) : List V → Hp → VK → Prop := fun xs H Q => ∃ (a : Addr) (vs : List V) (ts : List (List Int)) (d : Nat), xs = [V.ref a] ∧ SqL K H a vs ∧ TupsI K H d vs ts ∧ ts ≠ [] ∧
  ∀ (v : V) (t : List Int), (v, t) ∈ vs.zip ts → (∀ t' ∈ ts, lexL t' t = false) → Q v H
theorem cr_minLx (hc : X.calm = true) (hu : X.A.units + 64 < cLine) : CallR X (.builtin "min") (rMinLx X.K) := by
  intro pins s σ H vs us Q I r h
  obtain ⟨a, xs, ts, d, rfl, hs, ht, hne, q⟩ := h
  obtain ⟨its, rv, hl, hz⟩ := I.list hs
  rw [Vals.ref1 r]
  obtain ⟨e1, e2, e3⟩ := tupsI_zip I ht rv
  have hts : ts = its.map (TS.intsOf s.heap) := by
    have := congrArg (List.map (·.2)) e1
    rw [snd_zip ht.1, List.map_map] at this
    exact this
  cases its with
  | nil => exact absurd (by simpa using hts) hne
  | cons u0 us0 =>
    obtain ⟨as, ra⟩ := reads_tups fun u hu => (e3 u hu).1
    refine PySem.W.min_list_data (vs := (u0 :: us0).toArray) (x := (tupI (TS.intsOf s.heap u0)).py) (xs := (us0.map (TS.intsOf s.heap)).map fun t => (tupI t).py) (I.ok.hd hc) hl.isList (as := as) (by simpa [List.map_map, Function.comp_def] using ra) ?_ ?_ fun i v h' tk bs hv rv' kp => ?_
    · exact alike_tups (TS.intsOf s.heap u0 :: us0.map (TS.intsOf s.heap))
    · have := depth_tups (TS.intsOf s.heap u0 :: us0.map (TS.intsOf s.heap))
      rw [List.map_cons] at this
      omega
    · rw [minD_tups] at rv'
      have hv : (u0 :: us0)[i]? = some v := by simpa using hv
      have hm := List.mem_of_getElem? hv
      obtain ⟨b, rfl⟩ := e2 v hm
      have k1 := ((e3 _ hm).1.keeps fun b o e _ => kp b o e).ints
      have k2 := (tupI_reads rv').ints
      have k3 : minT (TS.intsOf s.heap u0) (us0.map (TS.intsOf s.heap)) = TS.intsOf s.heap (.ref b) := k2.symm.trans k1
      refine ⟨.ref b, H, I.kept (t' := tk) kp, rfl, q (.ref b) (TS.intsOf s.heap (.ref b)) ?_ ?_⟩
      · rw [e1]
        exact List.mem_map.mpr ⟨_, hm, rfl⟩
      · rw [hts, ← k3]
        exact (minT_spec _ _).2
/-- min(a list of tuples of ints) -/
abbrev iMinT : DRN := fun xs G Q => ∃ (x : D) (ts : List (List Int)) (d : Nat), xs = [x] ∧ vS G x = some (ts.map tupI) ∧ (∀ t ∈ ts, t.length = d + 1) ∧ ts ≠ [] ∧ ∀ t, t ∈ ts → (∀ t' ∈ ts, lexL t' t = false) → Q (tupI t) G
theorem cb_minT (hc : X.calm = true) (hu : X.A.units + 64 < cLine) : DCB X (.builtin "min") iMinT :=
  ⟨_, cr_minLx hc hu, fun H G vs ds Qd Q R i ⟨x, ts, d, e, h, hd, hne, q⟩ k => by
    subst e
    obtain ⟨v, rfl, iv⟩ := isds1 i
    obtain ⟨p, us, rfl, hp, r⟩ := vS_at R iv h
    have hT := tupsI_of r hd
    refine ⟨p, us, ts, d, rfl, hp, hT, hne, fun v t hm hl => ?_⟩
    obtain ⟨j, hj⟩ := List.mem_iff_getElem?.mp hm
    obtain ⟨h1, h2⟩ := List.getElem?_zip_eq_some.mp hj
    obtain ⟨d', hd', iv'⟩ := r.getV h1
    rw [List.getElem?_map, h2] at hd'
    cases hd'
    exact k _ _ _ _ (.refl R) iv' (q t (List.mem_of_getElem? h2) hl)⟩
end
end QF
/-! QL: slices stored; sorted, list of dicts with tuple keys. -/
namespace QF
open PySem L2
section
variable {X : Cx}
def gSlice (to tl th : TE) : TG := fun v σ H Q => to σ H fun o H1 => tl σ H1 fun x H2 => th σ H2 fun y H3 => ∃ l b xs ys a c, o = .ref l ∧ v = .ref b ∧ x = .int a ∧ y = .int c ∧ H3 l = some (.lst xs) ∧ H3 b = some (.lst ys) ∧ l ≠ b ∧ 0 ≤ a ∧ a ≤ c ∧ c ≤ xs.length ∧ xs.length + ys.length ≤ sizeLine ∧
  Q σ (upd H3 l (.lst (xs.take a.toNat ++ ys ++ xs.drop c.toNat)))
theorem pg_slice {o lo hi : Expr} {to tl th : TE} {p2 pos : Pos} (ho : PE X o to) (hl : PE X lo tl) (hh : PE X hi th)
    (ha : ∀ v, assign (.Subscript o (.Slice (some lo) (some hi) none p2) pos) X.env v = (do
      let ov ← holding [v] (eval o X.env)
      let iv ← holding [v, ov] (eval (.Slice (some lo) (some hi) none p2) X.env)
      standAt pos
      holding [v, ov, iv] (setItem ov iv v)
      release [iv, v, ov] []) := by intro _; rfl) : PG X (.Subscript o (.Slice (some lo) (some hi) none p2) pos) (gSlice to tl th) := by
  refine ⟨fun pins s σ H v u Q I r h => ?_⟩
  rw [ha]
  refine wpAny_bind (wpAny_holding (thn (ho.run pins s σ H _ I h) fun ov s1 ⟨x, H1, I1, r1, q1⟩ => ?_))
  refine wpAny_bind (wpAny_holding ?_)
  have hl' : PO X (some lo) (fun σ H Q => tl σ H fun x H1 => ∃ (i : Int), x = .int i ∧ Q (some i) H1) := po_some hl
  refine wpAny_Slice ?_
  rw [evalPart_some]
  refine thn (hl.run pins s1 σ H1 _ I1 q1) fun vl s2 ⟨l, H2, I2, rl, q2⟩ => ?_
  rw [evalPart_some]
  refine thn (hh.run pins s2 σ H2 _ I2 q2) fun vu s3 ⟨c, H3, I3, ru, q3⟩ => ?_
  rw [evalPart_none]
  refine wpAny_pure ?_
  obtain ⟨p, b, xs, ys, i, j, rfl, rfl, rfl, rfl, h1, h2, h3, h4, h5, h6, h7, q4⟩ := q3
  cases r1
  cases r
  have I4 : Inv X pins σ H3 { s3 with heap := s3.heap.push { cls := .type "slice", data := .fields #[vl, vu, .none] } } := I3.kept (t' := s3.toks) fun b ob q => Heap.get?_push_of_some _ q
  refine wpAny_bind (wpAny_standAt (wpAny_bind (wpAny_holding ?_)))
  refine set_slice I4 h1 h2 h3 (Heap.IsSliceOf.new ..) rl ru h4 h5 h6 h7 fun s5 I5 => ?_
  exact wpAny_release ⟨σ, _, I5, q4⟩
def sSlSet (to tl th tv : RE) : RS := fun E τ G => tv τ G fun v G1 => to τ G1 fun x G2 => tl τ G2 fun a G3 => th τ G3 fun c G4 => ∃ p ds ys i j, x = .ref p ∧ a = .int i ∧ c = .int j ∧ G4 p = some (.lst ds) ∧ vL G4 v = some ys ∧ v ≠ .ref p ∧ 0 ≤ i ∧ i ≤ j ∧ j ≤ ds.length ∧
  ds.length + ys.length ≤ sizeLine ∧ E.nx τ (up G4 p (.lst (ds.take i.toNat ++ ys ++ ds.drop j.toNat)))
theorem ds_slset {o lo hi e : Expr} {p2 pos tpos : Pos} {to tl th tv : RE} (ho : DE X o to) (hl : DE X lo tl) (hh : DE X hi th) (he : DE X e tv) (hs : swapsWithSole [.Subscript o (.Slice (some lo) (some hi) none p2) tpos] e pos.line X.env = pure false := by rfl) (hw : swappedStores [.Subscript o (.Slice (some lo) (some hi) none p2) tpos] e X.env = pure none := by rfl)
    (h1 : (assignEach [.Subscript o (.Slice (some lo) (some hi) none p2) tpos] X.env).map (·.2) = [assign (.Subscript o (.Slice (some lo) (some hi) none p2) tpos) X.env] := by rfl)
    (ha : ∀ v, assign (.Subscript o (.Slice (some lo) (some hi) none p2) tpos) X.env v = (do
      let ov ← holding [v] (eval o X.env)
      let iv ← holding [v, ov] (eval (.Slice (some lo) (some hi) none p2) X.env)
      standAt tpos
      holding [v, ov, iv] (setItem ov iv v)
      release [iv, v, ov] []) := by intro _; rfl) : DS X (.Assign [.Subscript o (.Slice (some lo) (some hi) none p2) tpos] e pos) (sSlSet to tl th tv) :=
  PS.weak (ps_asg he (pg_slice ho hl hh ha) hs hw h1) fun E σ H ⟨τ, G, Dd, a, q, k⟩ => liftE_of a q fun v H1 d G1 g1 i1 q1 => liftE_of (a.go g1) q1 fun u H2 x G2 g2 i2 q2 => liftE_of ((a.go g1).go g2) q2 fun w H3 y G3 g3 i3 q3 =>
    liftE_of (((a.go g1).go g2).go g3) q3 fun w' H4 z G4 g4 i4 ⟨p, ds, ys, i, j, ex, ey, ez, hp, hv, hne, c0, c1, c2, c3, q4⟩ => by
    subst ex; subst ey; subst ez
    cases i2
    cases i3
    cases i4
    have i1' := ((i1.fr g1.r g2.f).fr g2.r g3.f).fr g3.r g4.f
    obtain ⟨vs, hvs, r⟩ := g4.r p _ hp
    obtain ⟨b, us, rfl, hb, r2⟩ := vL_at g4.r i1' hv
    have ne : p ≠ b := by
      rintro rfl
      cases i1' with
      | lst h1 h2 h3 => rw [hp] at h2; cases h2
      | ref => exact hne rfl
      | _ => cases hv
    have g5 := set_lst (p := p) g4.r hp (((r.take i.toNat).append r2).append (r.drop j.toNat))
    exact ⟨p, b, vs, us, i, j, rfl, rfl, rfl, rfl, hvs, hb, ne, c0, c1, by rw [r.length]; exact c2, by rw [r.length, r2.length]; exact c3, k.nx _ _ _ _ ((((g1.trans g2).trans g3).trans g4).trans g5) (((((a.go g1).go g2).go g3).go g4).go g5).s q4⟩

/-! ### dicts as they are walked by sorted, list, tuple -/
theorem kdlR {P : Program} {w : World} {d : Addr} {od : Obj} {es : Array DictEntry} {ep : Nat} (lo : (d == sysModules) = false) (hx : od.ExactDict) (hdt : od.data = .dict es ep) :
    PySem.W.KdlSrc P w "dict" d d es.size (fun i v => ∃ en, es[i]? = some en ∧ v = en.key) (fun h => h.get? d = some od) where
  type := fun s h => ⟨od, h, hx.1⟩
  there := fun h e => ⟨Heap.lt_size e, Heap.lt_size e⟩
  keep := fun h h' e k => k d (.inl rfl) od e
  notList := by decide
  notTuple := by decide
  hint := fun A E s Q h q => PySem.W.kdl_hint_dict ⟨od, h, hx.1⟩ q
  iter := fun A s hh h => ⟨_, fun i h => h.IsKeyIter s.heap.objs.size d i es.size ep ∧ h.get? d = some od, (fun E Q hq => iter_keys lo h hx hdt hq),
    { sub := fun b hb => by simp at hb; simp [hb]
      frame := fun _ _ _ st hk => ⟨st.1.at fun o e => hk _ (by simp) o e, hk d (by simp) od st.2⟩
      item := fun i s' Q E hi st hQ => by
        obtain ⟨en, hen⟩ : ∃ en, es[i]? = some en := ⟨es[i], by simp [hi]⟩
        refine next_key_item st.1 st.2 hdt rfl hen fun h' st' sb => ?_
        have ne : d ≠ s.heap.objs.size := Nat.ne_of_lt (Heap.lt_size h)
        exact hQ _ h' s'.toks ⟨en, hen, rfl⟩ ⟨st', sb.extBut d od ne st.2⟩ fun b o hb e => sb.extBut b o (fun z => hb (by simp [z])) e
      done := fun s' Q E st hQ => next_key_end hh st.1 st.2 hdt rfl (Nat.le_refl _) fun h' eb => hQ h' s'.toks fun b o hb e => eb b o (fun z => hb (by simp [z])) e
      self := fun i s' Q E st hQ => wpAny_pyIter_keyiter st.1 hQ },
    ⟨_, Heap.get?_push_size _ rfl, rfl, rfl⟩, Heap.get?_push_of_some _ h⟩

/-- sorted(d), d with tuples of ints as keys -/
def rSortDn (B : Bk) : List V → Hp → VK → Prop := fun vs H Q => ∃ (a : Addr) (xs : List (NestedKey × Addr × Value)) (ts : List (List Int)) (d : Nat), vs = [V.ref a] ∧ Rd H a (.ext (nφ B a xs)) ∧ xs.length ≤ sizeLine ∧ (a == sysModules) = false ∧ TupsI B.K H d (xs.map fun p => V.ref p.2.1) ts ∧
  ∀ (ps : List (V × List Int)) (p : Addr), ps.Perm ((xs.map fun p => V.ref p.2.1).zip ts) → ps.Pairwise (fun a b => lexL b.2 a.2 = false) → H p = none → Q (.ref p) (upd H p (.lst (ps.map (·.1))))
variable {pins : List (Addr × Obj)} {σ : St} {H : Hp} {s : Shared}
theorem dn_obj (I : Inv X pins σ H s) {a : Addr} {xs : List (NestedKey × Addr × Value)} (h : Rd H a (.ext (nφ (bkx X) a xs))) :
    ∃ od es ep, s.heap.get? a = some od ∧ od.ExactDict ∧ od.data = .dict es ep ∧ es.toList = xs.map (entryOfKey (nestedKind X.prog X.w)) := by
  rcases h with h | ⟨od, h⟩
  · obtain ⟨⟨o, es, ep, h1, h2, h3, h4, h5⟩, _⟩ := I.hok a _ h
    exact ⟨o, es, ep, h1, h2, h3, h4⟩
  · obtain ⟨h1, h2, es, ep, h3, h4⟩ := frzN I h
    exact ⟨od, es, ep, h1, h2, h3, h4⟩
theorem keys_items {es : Array DictEntry} {xs : List (NestedKey × Addr × Value)} {acc : Array Value} (hes : es.toList = xs.map (entryOfKey (nestedKind X.prog X.w))) (h : ItemsOf (fun i v => ∃ en, es[i]? = some en ∧ v = en.key) acc es.size) :
    acc.toList = xs.map fun p => Value.ref p.2.1 := by
  have hsz : es.size = xs.length := size_of_entries hes
  apply List.ext_getElem?
  intro j
  rw [List.getElem?_map]
  by_cases hj : j < acc.size
  · have e1 : acc.toList[j]? = some acc[j] := by simp [hj]
    obtain ⟨en, he, hv⟩ := h.2 j acc[j] (by simp [hj])
    rw [entry_at hes j] at he
    rw [e1, hv]
    cases q : xs[j]? with
    | none => rw [q] at he; cases he
    | some p => rw [q] at he; cases he; rfl
  · have h1 := h.1
    rw [List.getElem?_eq_none (by simpa using hj), List.getElem?_eq_none (by omega)]
    rfl
theorem vals_keys : ∀ (xs : List (NestedKey × Addr × Value)), Vals (xs.map fun p => V.ref p.2.1) (xs.map fun p => Value.ref p.2.1)
  | [] => .nil
  | p :: ps => .cons (show RelV (.ref p.2.1) (.ref p.2.1) from rfl) (vals_keys ps)
theorem cr_sortDn (hcalm : X.calm = true) : CallR X (.builtin "sorted") (rSortDn (bkx X)) := by
  intro pins s σ H vs us Q I r h
  obtain ⟨a, xs, ts, d, rfl, hd, hz, hm, ht, q⟩ := h
  rw [Vals.ref1 r]
  obtain ⟨od, es, ep, hod, hx, hdt, hes⟩ := dn_obj I hd
  have hsz : es.size = xs.length := size_of_entries hes
  refine Calls.call_function_entry PyProof.Rows.kind_sorted PyProof.Rows.plain_sorted PyProof.Rows.entry_sorted (PyProof.Rows.args_sorted1 _) ?_
  unfold Builtin.«sorted»
  refine wpAny_bind (m := checkCount "sorted" 1 1 _) (wpAny_pure ?_)
  refine wpAny_bind (PySem.W.kdu_collect (A := X.A.in1) (kdlR hm hx hdt) (I.ok.hd hcalm) hod (by rw [hsz]; exact hz) fun h' tk acc hk hacc => ?_)
  have ea := keys_items hes hacc
  have I1 : Inv X pins σ H { s with heap := h', toks := tk } := I.kept hk
  have rv : Vals (xs.map fun p => V.ref p.2.1) acc.toList := by
    rw [ea]
    exact vals_keys xs
  obtain ⟨e1, e2, e3⟩ := tupsI_zip I1 ht rv
  have hal : acc.toList.length = xs.length := by rw [ea, List.length_map]
  refine wpAny_bind (wpAny_newList ?_ (by rw [hal]; exact hz))
  have hoL : (h'.push (PyProof.Rows.seqObj "list" acc.toList.toArray 0)).get? h'.objs.size = some (PyProof.Rows.seqObj "list" acc.toList.toArray 0) := Heap.get?_push_size _ rfl
  show wpAny _ _ _ _ _ { s with heap := h'.push (PyProof.Rows.seqObj "list" acc.toList.toArray 0), toks := tk }
  refine wpAny_bind (wpAny_holding (wpAny_call_entry PyProof.Rows.slot_list_sort ⟨_, hoL, rfl⟩ PyProof.Rows.entry_list_sort
    (SrtO.list_sort_ord (s := { s with heap := h'.push (PyProof.Rows.seqObj "list" acc.toList.toArray 0), toks := tk }) (swo_lexL (TS.intsOf h')) hoL (by rw [hal]; exact hz) (fun h2 => ?_) fun out h1 h2 => ⟨_, rfl, ?_⟩)
    (PyProof.Rows.args_list_sort _)))
  · refine tups_sortableO (d := d) (by omega) (fun v hv => ⟨(e3 v hv).1.keeps fun b o e _ => Heap.get?_push_of_some _ e, (e3 v hv).2⟩) fun o e => ?_
    have e' : some o = some (PyProof.Rows.seqObj "list" acc.toList.toArray 0) := e.symm.trans hoL
    cases e'
    intro c
    exact absurd (Value.type.inj c) (by decide)
  · obtain ⟨e', he'⟩ := PyProof.Rows.sortedHeap_at (vs := acc.toList) (out := out.toArray) hoL
    have h3 : ∀ u ∈ out, ∃ a, u = Value.ref a := fun u hu => e2 u (h2.perm.mem_iff.mp hu)
    have hp : (out.map fun u => (bkV u, TS.intsOf h' u)).Perm ((xs.map fun p => V.ref p.2.1).zip ts) := by
      rw [e1]
      exact h2.perm.map _
    refine wpAny_pure ⟨_, rfl, .ref h'.objs.size, upd H h'.objs.size (.lst ((out.map fun u => (bkV u, TS.intsOf h' u)).map (·.1))), I1.laid (t' := tk) (fun b u e => ?_) (Nat.le_refl _) ⟨?_, out, e', bkV_vals' h3, he'⟩, rfl, q _ _ hp ?_ (I1.hok.fresh (Nat.le_refl _))⟩
    · have hb : b < h'.objs.size := Heap.lt_size e
      rw [PyProof.Rows.sortedHeap_old (Nat.ne_of_lt hb) (by rw [PyProof.Rows.size_push']; exact Nat.lt_succ_of_lt hb)]
      exact Heap.get?_push_of_some _ e
    · rw [List.length_map, List.length_map, h2.perm.length_eq, hal]
      exact hz
    · exact List.pairwise_map.mpr h1
abbrev iSortDk : DRN := fun xs G Q => ∃ (a : Addr) (kvs : List (D × D)) (ts : List (List Int)) (d : Nat), xs = [.ref a] ∧ G a = some (.dn kvs) ∧ kvs.map (·.1) = ts.map tupI ∧ (∀ t ∈ ts, t.length = d + 1) ∧ ∀ us : List (List Int), us.Perm ts → us.Pairwise (fun a b => lexL b a = false) → Q (.lst (us.map tupI)) G
theorem nrel_keys {K : PySem.W.Frag} {H : Hp} {G : DG} : ∀ {xs : List (NestedKey × Addr × Value)} {kvs : List (D × D)}, Paired (NRel K H G) xs kvs → IsDs K H G (xs.map fun p => V.ref p.2.1) (kvs.map (·.1))
  | _, _, .nil => .nil
  | _, _, .cons h r => .cons h.2.2.2.2.1 (nrel_keys r)
theorem cb_sortDk (hc : X.calm = true) : DCB X (.builtin "sorted") iSortDk :=
  ⟨_, cr_sortDn hc, fun H G vs ds Qd Q R i ⟨a, kvs, ts, d, e, h, hk, hd, q⟩ k => by
    subst e
    obtain ⟨v, rfl, iv⟩ := isds1 i
    cases iv
    obtain ⟨xs, h1, h2, h3, h4⟩ := R a _ h
    have hi : IsDs (bkx X).K H G (xs.map fun p => V.ref p.2.1) (ts.map tupI) := by rw [← hk]; exact nrel_keys h4
    have hT := tupsI_of hi hd
    refine ⟨a, xs, ts, d, rfl, .inl h1, h2, h3, hT, fun ps l p1 p2 hl => ?_⟩
    obtain ⟨g, z⟩ := new_lst (ds := (ps.map (·.2)).map tupI) R hl (isDs_ps hi fun y hy => p1.mem_iff.mp hy)
    refine k _ _ _ _ g z (q _ ?_ (List.pairwise_map.mpr p2))
    have := p1.map (·.2)
    rw [snd_zip hT.1] at this
    exact this⟩

/-- {i: x, j: y}, ints -/
def dDisp2 (i x j y : Int) : RE := fun _ G Q => ∀ a, G a = none → Q (.ref a) (up G a (.dk [(.int i, .int x), (.int j, .int y)]))
theorem de_disp2 {i x j y : Int} {k1 k2 k3 k4 : Nat} {p1 p2 p3 p4 pos : Pos} (hij : i ≠ j := by decide) : DE X (.Dict [some (.Constant (.int i) k1 p1), some (.Constant (.int j) k2 p2)] [.Constant (.int x) k3 p3, .Constant (.int y) k4 p4] pos) (dDisp2 i x j y) :=
  PE.weak (pe_disp (pps_cons pe_int pe_int (pps_cons pe_int pe_int pps_nil)) rfl rfl (by simp) (by simp)) fun σ H Q ⟨τ, G, Qd, a, q, k⟩ p hp => by
    refine ⟨upd_same, [(.inl i, .int x), (.inl j, .int y)], rfl, by simp, ?_⟩
    have hm : mergeK [] [((.inl i : Key), V.int x), (.inl j, .int y)] = [((.inl i : Key), V.int x), (.inl j, .int y)] := by
      show putK (putK [] _ _) _ _ = _
      have e1 : putK ([] : List (Key × V)) (.inl i) (.int x) = [((.inl i : Key), V.int x)] := rfl
      rw [e1]
      unfold putK
      rw [if_neg (by simp [hij])]
      rfl
    rw [hm]
    have f : upd (upd H p (.dK [])) p (.dK [((.inl i : Key), V.int x), (.inl j, .int y)]) = upd H p (.dK [((.inl i : Key), V.int x), (.inl j, .int y)]) := by
      funext b
      by_cases e : b = p
      · subst e; rw [upd_same, upd_same]
      · rw [upd_ne e, upd_ne e, upd_ne e]
    rw [f]
    have n : H p = none ∨ G p ≠ none := .inl hp
    have g : Go (bkx X) H G (upd H p (.dK [((.inl i : Key), V.int x), (.inl j, .int y)])) (up G p (.dk [(.int i, .int x), (.int j, .int y)])) :=
      ⟨Frame.put n, a.r.put n ⟨_, upd_same, .cons ⟨rfl, .int _⟩ (.cons ⟨rfl, .int _⟩ .nil)⟩⟩
    exact k _ _ _ _ g (.ref p) (q p (a.r.free hp))
end
theorem bt_len : bootBuiltins "len" = some (.builtin "len") := by decide +kernel
theorem bt_min : bootBuiltins "min" = some (.builtin "min") := by decide +kernel
theorem bt_max : bootBuiltins "max" = some (.builtin "max") := by decide +kernel
theorem bt_abs : bootBuiltins "abs" = some (.builtin "abs") := by decide +kernel
theorem bt_sum : bootBuiltins "sum" = some (.builtin "sum") := by decide +kernel
theorem bt_all : bootBuiltins "all" = some (.builtin "all") := by decide +kernel
theorem bt_any : bootBuiltins "any" = some (.builtin "any") := by decide +kernel
theorem bt_isinstance : bootBuiltins "isinstance" = some (.builtin "isinstance") := by decide +kernel
theorem bt_sorted : bootBuiltins "sorted" = some (.builtin "sorted") := by decide +kernel
theorem bt_repr : bootBuiltins "repr" = some (.builtin "repr") := by decide +kernel
theorem bt_int : bootBuiltins "int" = some (.type "int") := by decide +kernel
theorem bt_bool : bootBuiltins "bool" = some (.type "bool") := by decide +kernel
theorem bt_str : bootBuiltins "str" = some (.type "str") := by decide +kernel
theorem bt_tuple : bootBuiltins "tuple" = some (.type "tuple") := by decide +kernel
theorem bt_list : bootBuiltins "list" = some (.type "list") := by decide +kernel
theorem bt_dict : bootBuiltins "dict" = some (.type "dict") := by decide +kernel
section
open PySem.F
end
end QF
/-! QM: the one telling: trees of quarters, their rows; no program here. -/
namespace QF
inductive QT where
  | lf (b : Bool)
  | nd (a b c d : QT)
  deriving DecidableEq
abbrev Rws := List (List Nat)
def nnum (q : List Nat) (R : Rws) : Nat × Rws :=
  if q = [0, 0, 0, 0] then (0, R) else if q = [1, 1, 1, 1] then (1, R) else if q ∈ R then (R.idxOf q + 2, R) else (R.length + 2, R ++ [q])
def tell : QT → Rws → Nat × Rws
  | .lf b, R => (b.toNat, R)
  | .nd a b c d, R => nnum [(tell a R).1, (tell b (tell a R).2).1, (tell c (tell b (tell a R).2).2).1, (tell d (tell c (tell b (tell a R).2).2).2).1] (tell d (tell c (tell b (tell a R).2).2).2).2
def mkT (a b c d : QT) : QT := if a = .lf false ∧ b = .lf false ∧ c = .lf false ∧ d = .lf false then .lf false else if a = .lf true ∧ b = .lf true ∧ c = .lf true ∧ d = .lf true then .lf true else .nd a b c d
def red : QT → QT
  | .lf b => .lf b
  | .nd a b c d => mkT (red a) (red b) (red c) (red d)
def ht : QT → Nat
  | .lf _ => 0
  | .nd a b c d => 1 + max (max (ht a) (ht b)) (max (ht c) (ht d))
/-- rows that may be told -/
structure OkR (R : Rws) : Prop where
  nd : R.Nodup
  ok : ∀ i q, R[i]? = some q → q.length = 4 ∧ (∀ y ∈ q, y < i + 2) ∧ q ≠ [0, 0, 0, 0] ∧ q ≠ [1, 1, 1, 1]
theorem OkR.nil : OkR [] := ⟨List.nodup_nil, fun i q h => by simp at h⟩
theorem OkR.snoc {R : Rws} {q : List Nat} (h : OkR R) (hq : q ∉ R) (l : q.length = 4) (b : ∀ y ∈ q, y < R.length + 2) (z : q ≠ [0, 0, 0, 0]) (o : q ≠ [1, 1, 1, 1]) : OkR (R ++ [q]) where
  nd := by
    rw [List.nodup_append]
    exact ⟨h.nd, by simp, fun x hx y hy e => by simp at hy; subst hy; subst e; exact hq hx⟩
  ok := fun i r hr => by
    by_cases hi : i < R.length
    · rw [List.getElem?_append_left hi] at hr
      exact h.ok i r hr
    · rw [List.getElem?_append_right (by omega)] at hr
      have : i - R.length = 0 := by
        cases e : i - R.length with
        | zero => rfl
        | succ k => rw [e] at hr; simp at hr
      have e : i = R.length := by omega
      rw [this] at hr
      simp at hr
      subst hr
      subst e
      exact ⟨l, b, z, o⟩
theorem OkR.pre {R S : Rws} (h : OkR (R ++ S)) : OkR R where
  nd := (List.nodup_append.mp h.nd).1
  ok := fun i q e => h.ok i q (by rw [List.getElem?_append_left (List.getElem?_eq_some_iff.mp e).1]; exact e)
/-- number x tells the tree t -/
inductive Den (R : Rws) : Nat → QT → Prop
  | z : Den R 0 (.lf false)
  | o : Den R 1 (.lf true)
  | nd {x a b c d : Nat} {ta tb tc td : QT} : R[x]? = some [a, b, c, d] → Den R a ta → Den R b tb → Den R c tc → Den R d td → Den R (x + 2) (.nd ta tb tc td)
theorem Den.mono {R S : Rws} {x : Nat} {t : QT} (h : Den R x t) : Den (R ++ S) x t := by
  induction h with
  | z => exact .z
  | o => exact .o
  | nd h _ _ _ _ i1 i2 i3 i4 => exact .nd (by rw [List.getElem?_append_left (List.getElem?_eq_some_iff.mp h).1]; exact h) i1 i2 i3 i4
theorem Den.fn {R : Rws} {x : Nat} {t : QT} (h : Den R x t) : ∀ {t' : QT}, Den R x t' → t = t' := by
  induction h with
  | z => intro t' h; cases h; rfl
  | o => intro t' h; cases h; rfl
  | nd h _ _ _ _ i1 i2 i3 i4 =>
    intro t' h'
    cases h' with
    | nd g a b c d =>
      rw [h] at g
      cases g
      rw [i1 a, i2 b, i3 c, i4 d]
theorem nodup_ix {α : Type} {R : List α} (h : R.Nodup) {i j : Nat} {q : α} (hi : R[i]? = some q) (hj : R[j]? = some q) : i = j := by
  obtain ⟨h1, e1⟩ := List.getElem?_eq_some_iff.mp hi
  obtain ⟨h2, e2⟩ := List.getElem?_eq_some_iff.mp hj
  exact (List.getElem_inj h).mp (e1.trans e2.symm)
theorem Den.inj {R : Rws} (ok : R.Nodup) {x : Nat} {t : QT} (h : Den R x t) : ∀ {y : Nat}, Den R y t → x = y := by
  induction h with
  | z => intro y h; cases h; rfl
  | o => intro y h; cases h; rfl
  | nd h _ _ _ _ i1 i2 i3 i4 =>
    intro y h'
    cases h' with
    | nd g a b c d =>
      have e1 := i1 a
      have e2 := i2 b
      have e3 := i3 c
      have e4 := i4 d
      subst e1; subst e2; subst e3; subst e4
      rw [nodup_ix ok h g]
theorem Den.lt {R : Rws} {x : Nat} {t : QT} (h : Den R x t) : x < R.length + 2 := by
  cases h with
  | z => omega
  | o => omega
  | nd h => have := (List.getElem?_eq_some_iff.mp h).1; omega
theorem nnum_pre (q : List Nat) (R : Rws) : ∃ S, (nnum q R).2 = R ++ S := by
  unfold nnum
  split
  · exact ⟨[], by simp⟩
  · split
    · exact ⟨[], by simp⟩
    · split
      · exact ⟨[], by simp⟩
      · exact ⟨[q], rfl⟩
theorem tell_pre (t : QT) : ∀ R, ∃ S, (tell t R).2 = R ++ S := by
  induction t with
  | lf b => intro R; exact ⟨[], by simp [tell]⟩
  | nd a b c d i1 i2 i3 i4 =>
    intro R
    obtain ⟨s1, e1⟩ := i1 R
    obtain ⟨s2, e2⟩ := i2 (tell a R).2
    obtain ⟨s3, e3⟩ := i3 (tell b (tell a R).2).2
    obtain ⟨s4, e4⟩ := i4 (tell c (tell b (tell a R).2).2).2
    obtain ⟨s5, e5⟩ := nnum_pre [(tell a R).1, (tell b (tell a R).2).1, (tell c (tell b (tell a R).2).2).1, (tell d (tell c (tell b (tell a R).2).2).2).1] (tell d (tell c (tell b (tell a R).2).2).2).2
    exact ⟨s1 ++ s2 ++ s3 ++ s4 ++ s5, by unfold tell; rw [e5, e4, e3, e2, e1]; simp⟩
theorem idxOf_get {R : Rws} {q : List Nat} (h : q ∈ R) : R[R.idxOf q]? = some q := by
  have hl := List.idxOf_lt_length_of_mem h
  rw [List.getElem?_eq_getElem hl, List.getElem_idxOf hl]
theorem nnum_ok {q : List Nat} {R : Rws} (ok : OkR R) (l : q.length = 4) (b : ∀ y ∈ q, y < R.length + 2) : OkR (nnum q R).2 ∧ (nnum q R).1 < (nnum q R).2.length + 2 := by
  unfold nnum
  split
  · exact ⟨ok, by show 0 < _; omega⟩
  · split
    · exact ⟨ok, by show 1 < _; omega⟩
    · split
      · rename_i h
        have := List.idxOf_lt_length_of_mem h
        exact ⟨ok, by show R.idxOf q + 2 < R.length + 2; omega⟩
      · exact ⟨ok.snoc (by assumption) l b (by assumption) (by assumption), by show R.length + 2 < (R ++ [q]).length + 2; rw [List.length_append]; simp⟩
theorem nnum_den {a b c d : Nat} {ta tb tc td : QT} {R : Rws} (ok : OkR R) (ha : Den R a ta) (hb : Den R b tb) (hc : Den R c tc) (hd : Den R d td) : Den (nnum [a, b, c, d] R).2 (nnum [a, b, c, d] R).1 (mkT ta tb tc td) := by
  have lz : ∀ {y t}, Den R y t → (y = 0 ↔ t = .lf false) := fun {y t} h => by
    constructor
    · intro e; subst e; cases h; rfl
    · intro e; subst e; cases h; rfl
  have lo : ∀ {y t}, Den R y t → (y = 1 ↔ t = .lf true) := fun {y t} h => by
    constructor
    · intro e; subst e; cases h; rfl
    · intro e; subst e; cases h; rfl
  unfold nnum mkT
  by_cases h0 : [a, b, c, d] = [0, 0, 0, 0]
  · rw [if_pos h0]
    have : a = 0 ∧ b = 0 ∧ c = 0 ∧ d = 0 := by simpa using h0
    rw [if_pos ⟨(lz ha).mp this.1, (lz hb).mp this.2.1, (lz hc).mp this.2.2.1, (lz hd).mp this.2.2.2⟩]
    exact .z
  · rw [if_neg h0]
    have n0 : ¬ (ta = .lf false ∧ tb = .lf false ∧ tc = .lf false ∧ td = .lf false) := fun e => h0 (by rw [(lz ha).mpr e.1, (lz hb).mpr e.2.1, (lz hc).mpr e.2.2.1, (lz hd).mpr e.2.2.2])
    rw [if_neg n0]
    by_cases h1 : [a, b, c, d] = [1, 1, 1, 1]
    · rw [if_pos h1]
      have : a = 1 ∧ b = 1 ∧ c = 1 ∧ d = 1 := by simpa using h1
      rw [if_pos ⟨(lo ha).mp this.1, (lo hb).mp this.2.1, (lo hc).mp this.2.2.1, (lo hd).mp this.2.2.2⟩]
      exact .o
    · rw [if_neg h1]
      have n1 : ¬ (ta = .lf true ∧ tb = .lf true ∧ tc = .lf true ∧ td = .lf true) := fun e => h1 (by rw [(lo ha).mpr e.1, (lo hb).mpr e.2.1, (lo hc).mpr e.2.2.1, (lo hd).mpr e.2.2.2])
      rw [if_neg n1]
      by_cases hm : [a, b, c, d] ∈ R
      · rw [if_pos hm]
        exact .nd (idxOf_get hm) ha hb hc hd
      · rw [if_neg hm]
        exact .nd (by rw [List.getElem?_append_right (Nat.le_refl _), Nat.sub_self]; rfl) ha.mono hb.mono hc.mono hd.mono
theorem tell_den (t : QT) : ∀ R, OkR R → OkR (tell t R).2 ∧ Den (tell t R).2 (tell t R).1 (red t) := by
  induction t with
  | lf b => intro R ok; cases b <;> exact ⟨ok, by first | exact .z | exact .o⟩
  | nd a b c d i1 i2 i3 i4 =>
    intro R ok
    obtain ⟨o1, d1⟩ := i1 R ok
    obtain ⟨o2, d2⟩ := i2 _ o1
    obtain ⟨o3, d3⟩ := i3 _ o2
    obtain ⟨o4, d4⟩ := i4 _ o3
    have up : ∀ (t : QT) (R : Rws) {x u}, Den R x u → Den (tell t R).2 x u := fun t R {x u} h => by
      obtain ⟨s, e⟩ := tell_pre t R
      rw [e]; exact h.mono
    have e1 := up d _ (up c _ (up b _ d1))
    have e2 := up d _ (up c _ d2)
    have e3 := up d _ d3
    unfold tell red
    refine ⟨(nnum_ok o4 rfl fun y hy => ?_).1, nnum_den o4 e1 e2 e3 d4⟩
    simp only [List.mem_cons, List.not_mem_nil, or_false] at hy
    rcases hy with e | e | e | e <;> subst e
    · exact e1.lt
    · exact e2.lt
    · exact e3.lt
    · exact d4.lt
theorem idxOf_pre {R S : Rws} {q : List Nat} (h : q ∈ R) : (R ++ S).idxOf q = R.idxOf q := by
  rw [List.idxOf_append, if_pos h]
theorem nnum_again {q : List Nat} {R S : Rws} : nnum q ((nnum q R).2 ++ S) = ((nnum q R).1, (nnum q R).2 ++ S) := by
  unfold nnum
  by_cases h0 : q = [0, 0, 0, 0]
  · simp only [if_pos h0]
  · by_cases h1 : q = [1, 1, 1, 1]
    · simp only [if_neg h0, if_pos h1]
    · by_cases hm : q ∈ R
      · simp only [if_neg h0, if_neg h1, if_pos hm]
        rw [if_pos (List.mem_append_left _ hm), idxOf_pre hm]
      · simp only [if_neg h0, if_neg h1, if_neg hm]
        have hm' : q ∈ R ++ [q] := by simp
        rw [if_pos (List.mem_append_left _ hm'), idxOf_pre hm']
        have : (R ++ [q]).idxOf q = R.length := by rw [List.idxOf_append, if_neg hm]; simp
        rw [this]
/-- told again it is the same -/
theorem tell_again (t : QT) : ∀ R S, tell t ((tell t R).2 ++ S) = ((tell t R).1, (tell t R).2 ++ S) := by
  induction t with
  | lf b => intro R S; rfl
  | nd a b c d i1 i2 i3 i4 =>
    intro R S
    obtain ⟨s2, e2⟩ := tell_pre b (tell a R).2
    obtain ⟨s3, e3⟩ := tell_pre c (tell b (tell a R).2).2
    obtain ⟨s4, e4⟩ := tell_pre d (tell c (tell b (tell a R).2).2).2
    obtain ⟨s5, e5⟩ := nnum_pre [(tell a R).1, (tell b (tell a R).2).1, (tell c (tell b (tell a R).2).2).1, (tell d (tell c (tell b (tell a R).2).2).2).1] (tell d (tell c (tell b (tell a R).2).2).2).2
    have k1 : ∀ S, tell a ((tell d (tell c (tell b (tell a R).2).2).2).2 ++ S) = ((tell a R).1, (tell d (tell c (tell b (tell a R).2).2).2).2 ++ S) := fun S => by
      rw [e4, e3, e2]
      simp only [List.append_assoc]
      exact i1 R _
    have k2 : ∀ S, tell b ((tell d (tell c (tell b (tell a R).2).2).2).2 ++ S) = ((tell b (tell a R).2).1, (tell d (tell c (tell b (tell a R).2).2).2).2 ++ S) := fun S => by
      rw [e4, e3]
      simp only [List.append_assoc]
      exact i2 _ _
    have k3 : ∀ S, tell c ((tell d (tell c (tell b (tell a R).2).2).2).2 ++ S) = ((tell c (tell b (tell a R).2).2).1, (tell d (tell c (tell b (tell a R).2).2).2).2 ++ S) := fun S => by
      rw [e4]
      simp only [List.append_assoc]
      exact i3 _ _
    have k4 := i4 (tell c (tell b (tell a R).2).2).2
    have hn := nnum_again (q := [(tell a R).1, (tell b (tell a R).2).1, (tell c (tell b (tell a R).2).2).1, (tell d (tell c (tell b (tell a R).2).2).2).1]) (R := (tell d (tell c (tell b (tell a R).2).2).2).2) (S := S)
    have eR : (tell (.nd a b c d) R).2 = (tell d (tell c (tell b (tell a R).2).2).2).2 ++ s5 := by rw [← e5]; rfl
    have eR' : (tell (.nd a b c d) R) = nnum [(tell a R).1, (tell b (tell a R).2).1, (tell c (tell b (tell a R).2).2).1, (tell d (tell c (tell b (tell a R).2).2).2).1] (tell d (tell c (tell b (tell a R).2).2).2).2 := rfl
    rw [← eR', eR] at hn
    rw [eR]
    simp only [List.append_assoc] at hn ⊢
    conv => lhs; unfold tell
    simp only [k1, k2, k3, k4]
    exact hn
/-- a number's tree told into its own rows adds nothing -/
theorem tell_in {R : Rws} (ok : OkR R) {x : Nat} {t : QT} (h : Den R x t) : tell t R = (x, R) := by
  induction h with
  | z => rfl
  | o => rfl
  | @nd x a b c d ta tb tc td h _ _ _ _ i1 i2 i3 i4 =>
    unfold tell
    simp only [i1, i2, i3, i4]
    unfold nnum
    obtain ⟨_, _, z, o⟩ := ok.ok _ _ h
    rw [if_neg z, if_neg o, if_pos (List.mem_of_getElem? h)]
    have := nodup_ix ok.nd (idxOf_get (List.mem_of_getElem? h)) h
    rw [this]
theorem tell_red (t : QT) : ∀ R, OkR R → tell (red t) R = tell t R := by
  induction t with
  | lf b => intro R _; rfl
  | nd a b c d i1 i2 i3 i4 =>
    intro R ok
    have o1 := (tell_den a R ok)
    have o2 := (tell_den b _ o1.1)
    have o3 := (tell_den c _ o2.1)
    have o4 := (tell_den d _ o3.1)
    have key : tell (.nd (red a) (red b) (red c) (red d)) R = tell (.nd a b c d) R := by
      unfold tell
      rw [i1 R ok, i2 _ o1.1, i3 _ o2.1, i4 _ o3.1]
    rw [← key]
    show tell (mkT (red a) (red b) (red c) (red d)) R = _
    unfold mkT
    split
    · rename_i h
      obtain ⟨h1, h2, h3, h4⟩ := h
      rw [h1, h2, h3, h4]
      rfl
    · split
      · rename_i h
        obtain ⟨h1, h2, h3, h4⟩ := h
        rw [h1, h2, h3, h4]
        rfl
      · rfl
theorem ht_red : ∀ t, ht (red t) ≤ ht t := fun t => by
  induction t with
  | lf b => exact Nat.le_refl _
  | nd a b c d i1 i2 i3 i4 =>
    show ht (mkT _ _ _ _) ≤ _
    unfold mkT
    split
    · exact Nat.zero_le _
    · split
      · exact Nat.zero_le _
      · show 1 + max (max _ _) (max _ _) ≤ 1 + max (max _ _) (max _ _)
        omega
end QF
/-! QN: rows in the order of their tops: renumbering by a walk from the top. -/
namespace QF
def newOf (F : List Nat) (y : Nat) : Nat := if y < 2 then y else F.idxOf y + 2
structure FT (R : Rws) (F : List Nat) (T : Rws) : Prop where
  nd : F.Nodup
  len : F.length = T.length
  row : ∀ i y, F[i]? = some y → ∃ q, 2 ≤ y ∧ R[y - 2]? = some q ∧ (∀ z ∈ q, z < 2 ∨ z ∈ F.take i) ∧ T[i]? = some (q.map (newOf F))
theorem FT.nil (R : Rws) : FT R [] [] := ⟨List.nodup_nil, rfl, fun i y h => by simp at h⟩
theorem newOf_pre {F S : List Nat} {y : Nat} (h : y < 2 ∨ y ∈ F) : newOf (F ++ S) y = newOf F y := by
  unfold newOf
  by_cases h2 : y < 2
  · rw [if_pos h2, if_pos h2]
  · rw [if_neg h2, if_neg h2]
    rcases h with h | h
    · exact absurd h h2
    · rw [List.idxOf_append, if_pos h]
theorem idx_of {F : List Nat} (hn : F.Nodup) {i y : Nat} (h : F[i]? = some y) : F.idxOf y = i := by
  have hm := List.mem_of_getElem? h
  have hl := List.idxOf_lt_length_of_mem hm
  have : F[F.idxOf y]? = some y := by rw [List.getElem?_eq_getElem hl, List.getElem_idxOf hl]
  exact nodup_ix hn this h
theorem newOf_inj {F : List Nat} {y z : Nat} (hy : y < 2 ∨ y ∈ F) (hz : z < 2 ∨ z ∈ F) (e : newOf F y = newOf F z) : y = z := by
  unfold newOf at e
  by_cases h1 : y < 2
  · rw [if_pos h1] at e
    by_cases h2 : z < 2
    · rw [if_pos h2] at e; exact e
    · rw [if_neg h2] at e; omega
  · rw [if_neg h1] at e
    by_cases h2 : z < 2
    · rw [if_pos h2] at e; omega
    · rw [if_neg h2] at e
      rcases hy with hy | hy
      · exact absurd hy h1
      rcases hz with hz | hz
      · exact absurd hz h2
      have e' : F.idxOf y = F.idxOf z := by omega
      have l1 := List.idxOf_lt_length_of_mem hy
      have l2 := List.idxOf_lt_length_of_mem hz
      have a1 : F[F.idxOf y]? = some y := by rw [List.getElem?_eq_getElem l1, List.getElem_idxOf l1]
      have a2 : F[F.idxOf z]? = some z := by rw [List.getElem?_eq_getElem l2, List.getElem_idxOf l2]
      rw [e', a2] at a1
      cases a1
      rfl
theorem map_new_inj {F : List Nat} : ∀ {q r : List Nat}, (∀ z ∈ q, z < 2 ∨ z ∈ F) → (∀ z ∈ r, z < 2 ∨ z ∈ F) → q.map (newOf F) = r.map (newOf F) → q = r
  | [], [], _, _, _ => rfl
  | [], _ :: _, _, _, e => by simp at e
  | _ :: _, [], _, _, e => by simp at e
  | a :: as, b :: bs, h1, h2, e => by
    simp only [List.map_cons, List.cons.injEq] at e
    rw [newOf_inj (h1 a List.mem_cons_self) (h2 b List.mem_cons_self) e.1, map_new_inj (fun z hz => h1 z (List.mem_cons_of_mem _ hz)) (fun z hz => h2 z (List.mem_cons_of_mem _ hz)) e.2]
theorem mem_take {F : List Nat} {i z : Nat} (h : z ∈ F.take i) : z ∈ F := List.mem_of_mem_take h
theorem FT.in (h : FT R F T) {i y : Nat} (hi : F[i]? = some y) : ∃ q, 2 ≤ y ∧ R[y - 2]? = some q ∧ (∀ z ∈ q, z < 2 ∨ z ∈ F) ∧ T[i]? = some (q.map (newOf F)) := by
  obtain ⟨q, h1, h2, h3, h4⟩ := h.row i y hi
  exact ⟨q, h1, h2, fun z hz => (h3 z hz).imp id mem_take, h4⟩
theorem FT.okT {R : Rws} {F : List Nat} {T : Rws} (ok : OkR R) (h : FT R F T) : OkR T where
  nd := by
    rw [List.nodup_iff_pairwise_ne, List.pairwise_iff_getElem]
    intro i j hi hj hij e
    have hi' : i < F.length := by rw [h.len]; exact hi
    have hj' : j < F.length := by rw [h.len]; exact hj
    obtain ⟨q, a1, a2, a3, a4⟩ := h.in (List.getElem?_eq_getElem hi')
    obtain ⟨r, b1, b2, b3, b4⟩ := h.in (List.getElem?_eq_getElem hj')
    rw [List.getElem?_eq_getElem hi] at a4
    rw [List.getElem?_eq_getElem hj] at b4
    have e1 : q.map (newOf F) = r.map (newOf F) := by
      rw [← Option.some.inj a4, ← Option.some.inj b4]; exact e
    have e2 := map_new_inj a3 b3 e1
    subst e2
    have e3 := nodup_ix ok.nd a2 b2
    have e4 : F[i] = F[j] := by omega
    have := (List.getElem_inj h.nd).mp e4
    omega
  ok := fun i q hq => by
    have hi' : i < F.length := by rw [h.len]; exact (List.getElem?_eq_some_iff.mp hq).1
    obtain ⟨r, a1, a2, a3, a4⟩ := h.row i _ (List.getElem?_eq_getElem hi')
    rw [hq] at a4
    obtain ⟨c1, c2, c3, c4⟩ := ok.ok _ _ a2
    cases a4
    have new0 : ∀ z, newOf F z = 0 → z = 0 := fun z e => by unfold newOf at e; split at e <;> omega
    have new1 : ∀ z, newOf F z = 1 → z = 1 := fun z e => by unfold newOf at e; split at e <;> omega
    refine ⟨by rw [List.length_map]; exact c1, fun y hy => ?_, fun e => c3 ?_, fun e => c4 ?_⟩
    · obtain ⟨z, hz, rfl⟩ := List.mem_map.mp hy
      unfold newOf
      split
      · omega
      · rename_i h2
        rcases a3 z hz with g | g
        · exact absurd g h2
        · obtain ⟨j, hj, e⟩ := List.getElem_of_mem g
          have hj2 : j < i := by simp at hj; omega
          have : F[j]? = some z := by
            rw [List.getElem_take] at e
            rw [List.getElem?_eq_getElem (by omega), e]
          rw [idx_of h.nd this]
          omega
    · match r, c1, e with
      | [a, b, c, d], _, e =>
        simp only [List.map_cons, List.map_nil, List.cons.injEq, and_true] at e
        rw [new0 a e.1, new0 b e.2.1, new0 c e.2.2.1, new0 d e.2.2.2]
    · match r, c1, e with
      | [a, b, c, d], _, e =>
        simp only [List.map_cons, List.map_nil, List.cons.injEq, and_true] at e
        rw [new1 a e.1, new1 b e.2.1, new1 c e.2.2.1, new1 d e.2.2.2]
theorem FT.den {R : Rws} {F : List Nat} {T : Rws} (h : FT R F T) {x : Nat} {t : QT} (hd : Den R x t) : (x < 2 ∨ x ∈ F) → Den T (newOf F x) t := by
  induction hd with
  | z => intro _; exact .z
  | o => intro _; exact .o
  | @nd x a b c d ta tb tc td hr _ _ _ _ i1 i2 i3 i4 =>
    intro hx
    rcases hx with hx | hx
    · omega
    obtain ⟨i, hi, e⟩ := List.getElem_of_mem hx
    have hi' : F[i]? = some (x + 2) := by rw [List.getElem?_eq_getElem hi, e]
    obtain ⟨q, _, a2, a3, a4⟩ := h.in hi'
    rw [show x + 2 - 2 = x from rfl, hr] at a2
    cases a2
    have en : newOf F (x + 2) = i + 2 := by unfold newOf; rw [if_neg (by omega), idx_of h.nd hi']
    rw [en]
    exact .nd a4 (i1 (a3 a (by simp))) (i2 (a3 b (by simp))) (i3 (a3 c (by simp))) (i4 (a3 d (by simp)))
def ordF (R : Rws) : QT → Nat → List Nat → List Nat
  | .lf _, _, F => F
  | .nd a b c d, x, F => if x ∈ F then F else match R[x - 2]? with
    | some [qa, qb, qc, qd] => ordF R d qd (ordF R c qc (ordF R b qb (ordF R a qa F))) ++ [x]
    | _ => F
theorem ord_spec {R : Rws} (ok : OkR R) : ∀ (t : QT) (x : Nat) (F : List Nat) (T : Rws), Den R x t → FT R F T → ∃ S T', ordF R t x F = F ++ S ∧ FT R (F ++ S) T' ∧ tell t T = (newOf (F ++ S) x, T') ∧ (x < 2 ∨ x ∈ F ++ S) ∧ ∀ y ∈ S, y ≤ x := by
  intro t
  induction t with
  | lf b =>
    intro x F T hd h
    have hx : x < 2 := by cases hd <;> omega
    refine ⟨[], T, by simp [ordF], by simpa using h, ?_, .inl hx, fun y hy => by cases hy⟩
    rw [tell_in (h.okT ok) (h.den hd (.inl hx))]
    simp
  | nd ta tb tc td i1 i2 i3 i4 =>
    intro x F T hd h
    by_cases hm : x ∈ F
    · refine ⟨[], T, by simp [ordF, hm], by simpa using h, ?_, .inr (by simpa using hm), fun y hy => by cases hy⟩
      rw [tell_in (h.okT ok) (h.den hd (.inr hm))]
      simp
    · cases hd with
      | @nd x a b c d _ _ _ _ hr da db dc dd =>
        obtain ⟨hl, hlt, hz, ho⟩ := ok.ok _ _ hr
        obtain ⟨S1, T1, e1, f1, t1, m1, l1⟩ := i1 a F T da h
        obtain ⟨S2, T2, e2, f2, t2, m2, l2⟩ := i2 b _ _ db f1
        obtain ⟨S3, T3, e3, f3, t3, m3, l3⟩ := i3 c _ _ dc f2
        obtain ⟨S4, T4, e4, f4, t4, m4, l4⟩ := i4 d _ _ dd f3
        have ha := hlt a (by simp)
        have hb := hlt b (by simp)
        have hc := hlt c (by simp)
        have hd := hlt d (by simp)
        generalize hF4 : F ++ S1 ++ S2 ++ S3 ++ S4 = F4 at *
        have nx : x + 2 ∉ F4 := by
          rw [← hF4]
          simp only [List.mem_append, not_or]
          exact ⟨⟨⟨⟨hm, fun z => by have := l1 _ z; omega⟩, fun z => by have := l2 _ z; omega⟩, fun z => by have := l3 _ z; omega⟩, fun z => by have := l4 _ z; omega⟩
        have ka : a < 2 ∨ a ∈ F4 := m1.imp id fun z => by rw [← hF4]; simp only [List.append_assoc] at z ⊢; simp only [List.mem_append] at z ⊢; rcases z with z | z <;> simp [z]
        have kb : b < 2 ∨ b ∈ F4 := m2.imp id fun z => by rw [← hF4]; simp only [List.mem_append] at z ⊢; rcases z with (z | z) | z <;> simp [z]
        have kc : c < 2 ∨ c ∈ F4 := m3.imp id fun z => by rw [← hF4]; simp only [List.mem_append] at z ⊢; rcases z with ((z | z) | z) | z <;> simp [z]
        have n1 : newOf (F ++ S1) a = newOf F4 a := by rw [← hF4]; simp only [List.append_assoc]; rw [← List.append_assoc F S1]; exact (newOf_pre m1).symm
        have n2 : newOf (F ++ S1 ++ S2) b = newOf F4 b := by rw [← hF4, List.append_assoc (F ++ S1 ++ S2)]; exact (newOf_pre m2).symm
        have n3 : newOf (F ++ S1 ++ S2 ++ S3) c = newOf F4 c := by rw [← hF4]; exact (newOf_pre m3).symm
        have kq : ∀ z ∈ [a, b, c, d], z < 2 ∨ z ∈ F4 := fun z hz => by
          simp only [List.mem_cons, List.not_mem_nil, or_false] at hz
          rcases hz with e | e | e | e <;> subst e <;> assumption
        have okT := f4.okT ok
        have notin : [a, b, c, d].map (newOf F4) ∉ T4 := fun z => by
          obtain ⟨i, hi, e⟩ := List.getElem_of_mem z
          have hi' : i < F4.length := by rw [f4.len]; exact hi
          obtain ⟨q, b1, b2, b3, b4⟩ := f4.in (List.getElem?_eq_getElem hi')
          rw [List.getElem?_eq_getElem hi, e] at b4
          have e2 := map_new_inj kq b3 (Option.some.inj b4)
          rw [← e2] at b2
          have e3 := nodup_ix ok.nd b2 hr
          have e4 : F4[i] = x + 2 := by omega
          exact nx (by rw [← e4]; exact List.getElem_mem hi')
        have new0 : ∀ z, newOf F4 z = 0 → z = 0 := fun z e => by unfold newOf at e; split at e <;> omega
        have new1 : ∀ z, newOf F4 z = 1 → z = 1 := fun z e => by unfold newOf at e; split at e <;> omega
        have z0 : [a, b, c, d].map (newOf F4) ≠ [0, 0, 0, 0] := fun e => hz (by
          simp only [List.map_cons, List.map_nil, List.cons.injEq, and_true] at e
          rw [new0 a e.1, new0 b e.2.1, new0 c e.2.2.1, new0 d e.2.2.2])
        have o0 : [a, b, c, d].map (newOf F4) ≠ [1, 1, 1, 1] := fun e => ho (by
          simp only [List.map_cons, List.map_nil, List.cons.injEq, and_true] at e
          rw [new1 a e.1, new1 b e.2.1, new1 c e.2.2.1, new1 d e.2.2.2])
        have et : tell (.nd ta tb tc td) T = (T4.length + 2, T4 ++ [[a, b, c, d].map (newOf F4)]) := by
          unfold tell
          rw [t1, t2, t3, t4]
          show nnum [newOf (F ++ S1) a, newOf (F ++ S1 ++ S2) b, newOf (F ++ S1 ++ S2 ++ S3) c, newOf F4 d] T4 = _
          rw [n1, n2, n3]
          show nnum ([a, b, c, d].map (newOf F4)) T4 = _
          unfold nnum
          rw [if_neg z0, if_neg o0, if_neg notin]
        have stab : ∀ z, z < 2 ∨ z ∈ F4 → newOf (F4 ++ [x + 2]) z = newOf F4 z := fun z hz => newOf_pre hz
        have rowst : ∀ q : List Nat, (∀ z ∈ q, z < 2 ∨ z ∈ F4) → q.map (newOf (F4 ++ [x + 2])) = q.map (newOf F4) := fun q hq => List.map_congr_left fun z hz => stab z (hq z hz)
        have hF5 : F ++ (S1 ++ S2 ++ S3 ++ S4 ++ [x + 2]) = F4 ++ [x + 2] := by rw [← hF4]; simp
        have idx : (F4 ++ [x + 2]).idxOf (x + 2) = F4.length := by rw [List.idxOf_append, if_neg nx]; simp
        refine ⟨S1 ++ S2 ++ S3 ++ S4 ++ [x + 2], T4 ++ [[a, b, c, d].map (newOf F4)], ?_, ?_, ?_, ?_, ?_⟩
        · rw [hF5]
          unfold ordF
          rw [if_neg hm]
          simp only [show x + 2 - 2 = x from rfl, hr]
          rw [e1, e2, e3, e4]
        · rw [hF5]
          refine ⟨?_, ?_, fun i y hy => ?_⟩
          · rw [List.nodup_append]
            exact ⟨f4.nd, by simp, fun u hu v hv e => by simp at hv; subst hv; subst e; exact nx hu⟩
          · rw [List.length_append, List.length_append, f4.len]; rfl
          · by_cases hi : i < F4.length
            · rw [List.getElem?_append_left hi] at hy
              obtain ⟨q, b1, b2, b3, b4⟩ := f4.row i y hy
              refine ⟨q, b1, b2, fun z hz => (b3 z hz).imp id fun g => ?_, ?_⟩
              · rw [List.take_append_of_le_length (Nat.le_of_lt hi)]; exact g
              · rw [List.getElem?_append_left (by rw [← f4.len]; exact hi), b4, rowst q fun z hz => (b3 z hz).imp id mem_take]
            · have hi2 : i = F4.length := by
                have := (List.getElem?_eq_some_iff.mp hy).1
                simp at this
                omega
              subst hi2
              rw [List.getElem?_append_right (Nat.le_refl _), Nat.sub_self] at hy
              simp at hy
              subst hy
              refine ⟨[a, b, c, d], by omega, hr, fun z hz => (kq z hz).imp id fun g => ?_, ?_⟩
              · rw [List.take_append_of_le_length (Nat.le_refl _), List.take_length]; exact g
              · rw [List.getElem?_append_right (by rw [f4.len]; exact Nat.le_refl _), f4.len, Nat.sub_self, rowst _ kq]
                rfl
        · rw [et, hF5]
          unfold newOf
          rw [if_neg (by omega), idx, f4.len]
        · exact .inr (by rw [hF5]; simp)
        · intro y hy
          simp only [List.mem_append, List.mem_singleton] at hy
          rcases hy with (((hy | hy) | hy) | hy) | hy
          · have := l1 _ hy; omega
          · have := l2 _ hy; omega
          · have := l3 _ hy; omega
          · have := l4 _ hy; omega
          · omega
end QF
/-! QO: for bodies: loops by what holds between the turns, pure comprehensions, equality of plain data. -/
namespace QF
open PySem L2
/-- G' holds at least what G does -/
def Ext (G G' : DG) : Prop := ∀ a o, G a = some o → G' a = some o
theorem Ext.refl (G : DG) : Ext G G := fun _ _ h => h
theorem Ext.trans {G G1 G2 : DG} (a : Ext G G1) (b : Ext G1 G2) : Ext G G2 := fun x o h => b x o (a x o h)
theorem Ext.new {G : DG} {a : Addr} {o : DO} (h : G a = none) : Ext G (up G a o) := fun b u e => by
  rw [up_ne (fun z => by subst z; rw [h] at e; cases e)]; exact e
theorem Ext.vL {G G' : DG} (e : Ext G G') {x : D} {ds : List D} (h : vL G x = some ds) : vL G' x = some ds := by
  cases x with
  | ref a =>
    unfold QF.vL at h ⊢
    cases q : G a with
    | none => simp only [q] at h; cases h
    | some o => simp only [e a o q]; simp only [q] at h; exact h
  | _ => exact h
theorem Ext.vS {G G' : DG} (e : Ext G G') {x : D} {ds : List D} (h : vS G x = some ds) : vS G' x = some ds := by
  cases x with
  | scr es => exact h
  | ref a => exact Ext.vL (x := .ref a) e h
  | lst ds => exact h
  | _ => cases h
theorem ne_kind {G : DG} {a b : Addr} {o u : DO} (h1 : G a = some o) (h2 : G b = some u) (h : o ≠ u) : a ≠ b := fun e => by
  subst e; rw [h1] at h2; exact h (Option.some.inj h2)
theorem ne_new {G : DG} {a b : Addr} {o : DO} (h1 : G a = some o) (h2 : G b = none) : a ≠ b := fun e => by
  subst e; rw [h1] at h2; cases h2
theorem del_up {G : DG} {a : Addr} {o : DO} (h : G a = none) : del (up G a o) a = G := by
  funext b
  by_cases e : b = a
  · subst e; rw [del_same, h]
  · rw [del_ne e, up_ne e]
theorem up_id {G : DG} {a : Addr} {o : DO} (h : G a = some o) : up G a o = G := by
  funext b
  by_cases e : b = a
  · subst e; rw [up_same, h]
  · rw [up_ne e]
theorem up_comm {G : DG} {a b : Addr} {o u : DO} (h : a ≠ b) : up (up G a o) b u = up (up G b u) a o := by
  funext c
  unfold up
  by_cases e1 : c = b
  · by_cases e2 : c = a
    · exact absurd (e2.symm.trans e1) h
    · simp [e1, Ne.symm h]
  · by_cases e2 : c = a
    · simp [e1, e2, h]
    · simp [e1, e2]
/-- dropping what has come -/
theorem less_up {G : DG} {a : Addr} {o : DO} (h : G a = none) : ∀ b u, G b = some u → up G a o b = some u := fun b u e => Ext.new h b u e
theorem feach_inv {g : Tg} {b : RS} {E : DEnds} {ok : DG → Prop} {items : List D} {τ : DSt} {G : DG} (P : List D → DSt → DG → Prop) (h0 : P [] τ G) (hok : ∀ pre τ G, P pre τ G → ok G)
    (hs : ∀ pre d post τ G, items = pre ++ d :: post → P pre τ G → ∃ τ', g.put d τ = some τ' ∧ ∀ N : DSt → DG → Prop, (∀ τ G, P (pre ++ [d]) τ G → N τ G) → b { E with nx := N, ct := N, bk := E.nx } τ' G)
    (hd : ∀ τ G, P items τ G → E.nx τ G) : feach g b E ok items τ G := by
  have key : ∀ (post pre : List D) τ G, items = pre ++ post → P pre τ G → feach g b E ok post τ G := by
    intro post
    induction post with
    | nil =>
      intro pre τ G e p
      rw [List.append_nil] at e
      subst e
      exact ⟨hok _ _ _ p, hd _ _ p⟩
    | cons d post ih =>
      intro pre τ G e p
      obtain ⟨τ', e1, q⟩ := hs pre d post τ G e p
      exact ⟨hok _ _ _ p, τ', e1, q _ fun τ2 G2 p2 => ih (pre ++ [d]) τ2 G2 (by rw [e]; simp) p2⟩
  exact key items [] τ G rfl h0
/-- a comprehension that changes nothing -/
theorem lceach_pure {g : Tg} {tt : RT} {te : RE} {vs : List Nat} {τ : DSt} {ok : DG → Prop} {l : Addr} {Q : DG → Prop} {items : List D} {G : DG} (f : D → Option D) (hl : G l = none) (hok : ∀ G', Ext G G' → ok G')
    (hs : ∀ d, d ∈ items → ∃ τ', g.put d (wipeD τ vs) = some τ' ∧ ∀ G', Ext G G' → ∀ (Kt : D → DG → Prop) (Kf : DG → Prop), (match f d with | some y => Kt y G' | none => Kf G') → tt τ' G' fun b G2 => if b = true then te τ' G2 Kt else Kf G2)
    (hz : (items.filterMap f).length ≤ sizeLine) (hq : Q (up G l (.lst (items.filterMap f)))) : lceach g tt te vs τ ok l Q items (up G l (.lst [])) := by
  have key : ∀ (post : List D) (acc : List D), (∀ d, d ∈ post → d ∈ items) → acc ++ post.filterMap f = items.filterMap f → lceach g tt te vs τ ok l Q post (up G l (.lst acc)) := by
    intro post
    induction post with
    | nil =>
      intro acc _ e
      rw [List.filterMap_nil, List.append_nil] at e
      exact ⟨hok _ (Ext.new hl), by rw [e]; exact hq⟩
    | cons d post ih =>
      intro acc hm e
      obtain ⟨τ', e1, q⟩ := hs d (hm d List.mem_cons_self)
      refine ⟨hok _ (Ext.new hl), τ', e1, q _ (Ext.new hl) _ _ ?_⟩
      cases hf : f d with
      | none =>
        rw [List.filterMap_cons_none hf] at e
        exact ih acc (fun d h => hm d (List.mem_cons_of_mem _ h)) e
      | some y =>
        rw [List.filterMap_cons_some hf] at e
        refine ⟨acc, up_same, ?_, ?_⟩
        · have := congrArg List.length e
          rw [List.length_append, List.length_cons] at this
          omega
        · rw [up_up]
          exact ih (acc ++ [y]) (fun d h => hm d (List.mem_cons_of_mem _ h)) (by rw [← e]; simp)
  exact key items [] (fun _ h => h) rfl

/-! ### plain data -/
mutual
def D.nice : D → Bool
  | .non => true
  | .bl _ => true
  | .int _ => true
  | .str x => PyData.strOk x
  | .ty _ => false
  | .tup xs => D.nices xs
  | .lst xs => D.nices xs
  | .scr xs => D.nices xs
  | .ref _ => false
def D.nices : List D → Bool
  | [] => true
  | x :: xs => x.nice && D.nices xs
end
mutual
theorem nice_flat : ∀ d : D, d.nice = true → d.flat = true ∧ d.py.canLay0 = true
  | .non, _ => by simp [D.flat, D.py, PyData.canLay0]
  | .bl _, _ => by simp [D.flat, D.py, PyData.canLay0]
  | .int _, _ => by simp [D.flat, D.py, PyData.canLay0]
  | .str x, h => by simpa [D.flat, D.py, PyData.canLay0, D.nice] using h
  | .ty _, h => by cases h
  | .ref _, h => by cases h
  | .tup xs, h => by have := nice_flats xs (by simpa [D.nice] using h); simpa [D.flat, D.py, PyData.canLay0] using this
  | .lst xs, h => by have := nice_flats xs (by simpa [D.nice] using h); simpa [D.flat, D.py, PyData.canLay0] using this
  | .scr xs, h => by have := nice_flats xs (by simpa [D.nice] using h); simpa [D.flat, D.py, PyData.canLay0] using this
theorem nice_flats : ∀ ds : List D, D.nices ds = true → D.flats ds = true ∧ PyData.canLayAll0 (D.pys ds) = true
  | [], _ => by simp [D.flats, D.pys, PyData.canLayAll0]
  | x :: xs, h => by
    have h : (x.nice && D.nices xs) = true := by simpa [D.nices] using h
    rw [Bool.and_eq_true] at h
    have a := nice_flat x h.1
    have b := nice_flats xs h.2
    simp [D.flats, D.pys, PyData.canLayAll0, a, b]
end
theorem okD_of {d : D} (h : d.nice = true) (hd : d.py.depth ≤ 64) : okD d = true := by
  unfold okD SeqAt.shaped
  obtain ⟨a, b⟩ := nice_flat d h
  rw [a, b]
  simpa using hd
theorem okL_of {ds : List D} (h : D.nices ds = true) (hd : PyData.depthAll (D.pys ds) ≤ 63) : okL ds = true := by
  unfold okL SeqAt.shaped
  obtain ⟨a, b⟩ := nice_flats ds h
  rw [a]
  simp only [PyData.canLay0, b, PyData.depth, Bool.true_and]
  have : 1 + PyData.depthAll (D.pys ds) ≤ 64 := by omega
  exact decide_eq_true (by omega)
theorem deqv_self {d : D} (h : d.nice = true) : deqv d d = true := SeqAt.eqv_refl d.py (nice_flat d h).2
theorem nices_append {xs ys : List D} (h1 : D.nices xs = true) (h2 : D.nices ys = true) : D.nices (xs ++ ys) = true := by
  induction xs with
  | nil => exact h2
  | cons x xs ih =>
    have h1 : (x.nice && D.nices xs) = true := by simpa [D.nices] using h1
    rw [Bool.and_eq_true] at h1
    show (x.nice && D.nices (xs ++ ys)) = true
    rw [h1.1, ih h1.2]
    rfl
theorem nices_map {α : Type} {f : α → D} {xs : List α} (h : ∀ x ∈ xs, (f x).nice = true) : D.nices (xs.map f) = true := by
  induction xs with
  | nil => rfl
  | cons x xs ih =>
    show ((f x).nice && D.nices (xs.map f)) = true
    rw [h x List.mem_cons_self, ih fun y hy => h y (List.mem_cons_of_mem _ hy)]
    rfl
theorem deps_map {α : Type} {f : α → D} {n : Nat} {xs : List α} (h : ∀ x ∈ xs, (f x).py.depth ≤ n) : PyData.depthAll (D.pys (xs.map f)) ≤ n := by
  induction xs with
  | nil => simp [D.pys, PyData.depthAll]
  | cons x xs ih =>
    have := h x List.mem_cons_self
    have := ih fun y hy => h y (List.mem_cons_of_mem _ hy)
    simp only [List.map_cons, D.pys, PyData.depthAll]
    omega
theorem tupI_nice (z : List Int) : (tupI z).nice = true := nices_map (f := D.int) fun _ _ => rfl
theorem tupI_dep (z : List Int) : (tupI z).py.depth ≤ 2 := by
  rw [tupI_py]
  have := depth_ints z
  simp only [PyData.depth]
  omega
theorem eqvAll_ints : ∀ (x y : List Int), PyData.eqvAll (x.map PyData.int) (y.map PyData.int) = decide (x = y)
  | [], [] => by simp [PyData.eqvAll]
  | [], _ :: _ => by simp [PyData.eqvAll]
  | _ :: _, [] => by simp [PyData.eqvAll]
  | a :: as, b :: bs => by
    simp only [List.map_cons, PyData.eqvAll, PyData.eqv, eqvAll_ints as bs]
    by_cases h : a = b <;> simp [h]
theorem deqv_tupI (x y : List Int) : deqv (tupI x) (tupI y) = decide (x = y) := by
  unfold deqv
  rw [tupI_py, tupI_py]
  show PyData.eqvAll _ _ = _
  exact eqvAll_ints x y
theorem norm_tupI (x y : List Int) : ((tupI x).norm = (tupI y).norm) ↔ x = y := by
  have key : ∀ x y : List Int, D.norms (x.map D.int) = D.norms (y.map D.int) ↔ x = y := by
    intro x
    induction x with
    | nil => intro y; cases y <;> simp [D.norms]
    | cons a as ih =>
      intro y
      cases y with
      | nil => simp [D.norms]
      | cons b bs => simp [D.norms, D.norm, ih bs]
  show (NestedKey.tup _ = NestedKey.tup _) ↔ _
  rw [NestedKey.tup.injEq]
  exact key x y
end QF
/-! QP: what the views are on each kind of data. -/
namespace QF
open PySem L2
section
variable {G : DG} {a : Addr} {ds es : List D} {i : Int} {b : Bool} {x : Str} {n : String}
theorem atI_natQ {α : Type} {xs : List α} {i : Nat} {x : α} (h : xs[i]? = some x) : atI xs ((i : Nat) : Int) = some x := by
  have hl := (List.getElem?_eq_some_iff.mp h).1
  have e : ixN xs.length ((i : Nat) : Int) = some i := by
    unfold ixN
    rw [if_pos (by omega), if_pos (by omega)]
    simp
  unfold atI
  rw [e]
  exact h
theorem vL_lst' : vL G (.lst ds) = some ds := rfl
theorem vL_ref' : (vL G (.ref a) = some ds) = (G a = some (.lst ds)) := by
  apply propext
  constructor
  · intro h
    unfold vL at h
    cases e : G a with
    | none => simp only [e] at h; cases h
    | some o =>
      cases o with
      | lst es => simp only [e] at h; cases h; rfl
      | _ => simp only [e] at h; cases h
  · exact vL_ref
theorem vL_tup : vL G (.tup ds) = none := rfl
theorem vL_int : vL G (.int i) = none := rfl
theorem vL_bl : vL G (.bl b) = none := rfl
theorem vL_str : vL G (.str x) = none := rfl
theorem vL_non : vL G .non = none := rfl
theorem vS_scr' : vS G (.scr ds) = some ds := rfl
theorem vS_lst' : vS G (.lst ds) = some ds := rfl
theorem vS_ref' : (vS G (.ref a) = some ds) = (G a = some (.lst ds)) := vL_ref'
theorem vS_tup : vS G (.tup ds) = none := rfl
theorem vS_int : vS G (.int i) = none := rfl
theorem vS_bl : vS G (.bl b) = none := rfl
theorem vS_str : vS G (.str x) = none := rfl
theorem vS_non : vS G .non = none := rfl
theorem vLT_lst : vLT G (.lst ds) = some ds := rfl
theorem vLT_tup : vLT G (.tup ds) = some ds := rfl
theorem vLT_ref : (vLT G (.ref a) = some ds) = (G a = some (.lst ds)) := vL_ref'
theorem vD_tup : vD G (.tup ds) = .tup ds := rfl
theorem vD_lst : vD G (.lst ds) = .lst ds := rfl
theorem vD_int : vD G (.int i) = .int i := rfl
theorem vD_str : vD G (.str x) = .str x := rfl
theorem vD_non : vD G .non = .non := rfl
theorem vD_ref (h : G a = some (.lst ds)) : vD G (.ref a) = .lst ds := by unfold vD; simp only [h]
theorem isNonD_non : isNonD .non = true := rfl
theorem isNonD_tup : isNonD (.tup ds) = false := rfl
theorem isNonD_int : isNonD (.int i) = false := rfl
theorem dkv_dn {kvs : List (D × D)} {k : D} (h : G a = some (.dn kvs)) (hk : isN k = true) : dkv G (.ref a) k = some kvs := by
  unfold dkv; simp only [h, hk, if_true]
theorem dkv_dk {kvs : List (D × D)} {k : D} (h : G a = some (.dk kvs)) (hk : isK k = true) : dkv G (.ref a) k = some kvs := by
  unfold dkv; simp only [h, hk, if_true]
theorem dkv_lkK {od : Obj} {ks} {kvs : List (D × D)} {k : D} (h : G a = some (.lk od (.dK ks) kvs)) (hk : isK k = true) : dkv G (.ref a) k = some kvs := by
  unfold dkv; simp only [h, hk, if_true]
theorem dkv_lkN {od : Obj} {φ} {kvs : List (D × D)} {k : D} (h : G a = some (.lk od (.ext φ) kvs)) (hk : isN k = true) : dkv G (.ref a) k = some kvs := by
  unfold dkv; simp only [h, hk, if_true]
theorem isN_tupI (z : List Int) : isN (tupI z) = true := by
  have h1 : ∀ z : List Int, D.keyables (z.map D.int) = true := fun z => by
    induction z with
    | nil => rfl
    | cons a as ih => show ((D.int a).keyable && D.keyables (as.map D.int)) = true; rw [ih]; rfl
  have h2 : ∀ z : List Int, NestedKey.depthAll (D.norms (z.map D.int)) = 0 := fun z => by
    induction z with
    | nil => rfl
    | cons a as ih => show max (NestedKey.depth (D.int a).norm) (NestedKey.depthAll (D.norms (as.map D.int))) = 0; rw [ih]; rfl
  show (D.keyables (z.map D.int) && decide (NestedKey.depthAll (D.norms (z.map D.int)) + 1 ≤ 8)) = true
  rw [h1, h2]
  rfl
theorem isK_int : isK (.int i) = true := rfl
theorem isK_str : isK (.str x) = true := rfl
theorem at0 {α : Type} {a : α} {l : List α} : atI (a :: l) 0 = some a := by
  have := atI_natQ (xs := a :: l) (i := 0) (x := a) rfl
  exact this
theorem at1 {α : Type} {a b : α} {l : List α} : atI (a :: b :: l) 1 = some b := atI_natQ (xs := a :: b :: l) (i := 1) (x := b) rfl
theorem at2 {α : Type} {a b c : α} {l : List α} : atI (a :: b :: c :: l) 2 = some c := atI_natQ (xs := a :: b :: c :: l) (i := 2) (x := c) rfl
theorem at3 {α : Type} {a b c d : α} {l : List α} : atI (a :: b :: c :: d :: l) 3 = some d := atI_natQ (xs := a :: b :: c :: d :: l) (i := 3) (x := d) rfl
theorem lit3 : (((3 : Nat) : Int) = 3) = True := eq_true rfl
theorem lit4 : (((4 : Nat) : Int) = 4) = True := eq_true rfl
theorem lit2 : (((2 : Nat) : Int) = 2) = True := eq_true rfl
end
end QF
/-! QQ: the rules with more than one way, each as one way told by a function. -/
namespace QF
open PySem L2
section
variable {X : Cx}
theorem DE.weak {e : Expr} {t t' : RE} (h : DE X e t) (w : ∀ τ G Q, t' τ G Q → t τ G Q) : DE X e t' := PE.weak h fun σ H Q ⟨τ, G, Qd, a, q, k⟩ => ⟨τ, G, Qd, a, w _ _ _ q, k⟩
theorem DS.weak {e : Stmt} {t t' : RS} (h : DS X e t) (w : ∀ D τ G, t' D τ G → t D τ G) : DS X e t' := PS.weak h fun D σ H ⟨τ, G, Dd, a, q, k⟩ => ⟨τ, G, Dd, a, w _ _ _ q, k⟩
theorem DI.weak {tg iter : Expr} {t t' : RI} (h : DI X tg iter t) (w : ∀ τ G R, t' τ G R → t τ G R) : DI X tg iter t' := PI.weak h fun σ H R ⟨τ, G, Rd, a, q, k⟩ => ⟨τ, G, Rd, a, w _ _ _ q, k⟩
theorem DCB.weak {f : Value} {r r' : DRN} (h : DCB X f r) (w : ∀ ds G Q, r' ds G Q → r ds G Q) : DCB X f r' := by
  obtain ⟨r0, o, an⟩ := h
  exact ⟨r0, o, fun H G vs ds Qd Q R i q k => an H G vs ds Qd Q R i (w _ _ _ q) k⟩
theorem DOp.weak {f : Value → Value → Sem Value} {r r' : DR2} (h : DOp X f r) (w : ∀ x y G Q, r' x y G Q → r x y G Q) : DOp X f r' := by
  obtain ⟨r0, o, an⟩ := h
  exact ⟨r0, o, fun H G v u x y Qd Q R i j q k => an H G v u x y Qd Q R i j (w _ _ _ _ q) k⟩
end
def lenO : Option DO → Option Nat
  | some (.lst ds) => some ds.length
  | some (.dk kvs) => some kvs.length
  | some (.dn kvs) => some kvs.length
  | _ => none
def lenOf (G : DG) : D → Option Nat
  | .lst ds => some ds.length
  | .tup ds => some ds.length
  | .scr ds => some ds.length
  | .str z => if z.length ≤ sizeLine then some z.length else none
  | .ref a => lenO (G a)
  | _ => none
def iLenF : DRN := fun xs G Q => ∃ x n, xs = [x] ∧ lenOf G x = some n ∧ Q (.int (n : Nat)) G
def ixO : Option DO → Int → Option D
  | some (.lst ds), i => atI ds i
  | _, _ => none
def ixOf (G : DG) : D → Int → Option D
  | .lst ds, i => atI ds i
  | .tup ds, i => atI ds i
  | .scr ds, i => atI ds i
  | .str z, i => if z.length ≤ sizeLine then (atI z.cps.toList i).map fun c => D.str ⟨#[c]⟩ else none
  | .ref a, i => ixO (G a) i
  | _, _ => none
def iIxF : DR2 := fun x y G Q => ∃ i d, y = .int i ∧ ixOf G x i = some d ∧ Q d G
def putO : Option DO → D → D → Option DO
  | some (.dk kvs), k, v => if isK k = true ∧ kvs.length < sizeLine then some (.dk (dputL kvs k v)) else none
  | some (.dn kvs), k, v => if isN k = true ∧ kvs.length < sizeLine then some (.dn (dputL kvs k v)) else none
  | _, _, _ => none
def sDPutF (td tk tv : RE) : RS := fun E τ G => tv τ G fun v G1 => td τ G1 fun x G2 => tk τ G2 fun k G3 => ∃ a o, x = .ref a ∧ putO (G3 a) k v = some o ∧ E.nx τ (up G3 a o)
def popO : Option DO → D → Option (D × DO)
  | some (.dk kvs), k => if isK k = true then (dgetL kvs k).map fun d => (d, .dk (ddelL kvs k)) else none
  | some (.dn kvs), k => if isN k = true then (dgetL kvs k).map fun d => (d, .dn (ddelL kvs k)) else none
  | _, _ => none
def isDictO : Option DO → Bool
  | some (.dk _) => true
  | some (.dn _) => true
  | some (.lk _ _ _) => true
  | _ => false
def isDictF (G : DG) : D → Bool
  | .ref a => isDictO (G a)
  | _ => false
def dDPop1F (td tk : RE) : RE := fun τ G Q => td τ G fun x G1 => isDictF G1 x = true ∧ tk τ G1 fun k G2 => ∃ a d o, x = .ref a ∧ popO (G2 a) k = some (d, o) ∧ Q d (up G2 a o)
def dDGet2F (td tk tx : RE) : RE := fun τ G Q => td τ G fun x G1 => isDictF G1 x = true ∧ tk τ G1 fun k G2 => tx τ G2 fun z G3 => ∃ kvs, dkv G3 x k = some kvs ∧ Q ((dgetL kvs k).getD z) G3
def seqO : Option DO → Option (List D)
  | some (.lst ds) => some ds
  | _ => none
def tupOf (G : DG) : D → Option (List D)
  | .lst ds => some ds
  | .tup ds => some ds
  | .scr ds => some ds
  | .ref a => seqO (G a)
  | _ => none
def seqOf (G : DG) : D → Option (List D)
  | .str z => some (strD z)
  | x => tupOf G x
def okS (x : D) (ds : List D) : DG → Prop := match x with
  | .tup _ => fun _ => True
  | .str _ => fun _ => True
  | x => fun G' => vS G' x = some ds
def wSeqF (t : RE) : RI := fun τ G R => t τ G fun x G1 => ∃ ds, seqOf G1 x = some ds ∧ R ds (okS x ds) G1
def wEnumF (t : RA) : RI := fun τ G R => t τ G fun xs G1 => ∃ x ds, xs = [x] ∧ tupOf G1 x = some ds ∧ R (enumD ds) (okS x ds) G1
def iTupleF : DRN := fun xs G Q => ∃ x ds, xs = [x] ∧ tupOf G x = some ds ∧ Q (.tup ds) G
def iListF : DRN := fun xs G Q => ∃ x ds, xs = [x] ∧ tupOf G x = some ds ∧ Q (.lst ds) G
def iListMF : DRN := fun xs G Q => ∃ x ds, xs = [x] ∧ tupOf G x = some ds ∧ ∀ l, G l = none → Q (.ref l) (up G l (.lst ds))
def intOf : D → Option Int
  | .int i => some i
  | .bl k => some (if k = true then 1 else 0)
  | _ => none
def iIntF : DRN := fun xs G Q => ∃ x i, xs = [x] ∧ intOf x = some i ∧ Q (.int i) G
def eqOf : D → D → Option Bool
  | .int i, .int j => some (decide (i = j))
  | .str i, .str j => some (decide (i = j))
  | .bl i, .bl j => some (decide (i = j))
  | _, _ => none
def iEqSF : DR2 := fun x y G Q => ∃ b, eqOf x y = some b ∧ Q (.bl b) G
def iNeSF : DR2 := fun x y G Q => ∃ b, eqOf x y = some b ∧ Q (.bl (!b)) G
theorem tupOf_cases {G : DG} {x : D} {ds : List D} (h : tupOf G x = some ds) : x = .tup ds ∨ ((∀ es, x ≠ .tup es) ∧ (∀ z, x ≠ .str z) ∧ vS G x = some ds) := by
  cases x with
  | tup es =>
    have h : some es = some ds := h
    cases h
    exact .inl rfl
  | lst es => exact .inr ⟨fun _ z => (nomatch z), fun _ z => (nomatch z), h⟩
  | scr es => exact .inr ⟨fun _ z => (nomatch z), fun _ z => (nomatch z), h⟩
  | ref a =>
    refine .inr ⟨fun _ z => (nomatch z), fun _ z => (nomatch z), ?_⟩
    have h : seqO (G a) = some ds := h
    rw [vS_ref']
    cases e : G a with
    | none => rw [e] at h; cases h
    | some o =>
      rw [e] at h
      cases o with
      | lst es =>
        have h : some es = some ds := h
        cases h
        rfl
      | _ => cases h
  | _ => cases h
theorem okS_vS {x : D} {ds : List D} (h1 : ∀ es, x ≠ .tup es) (h2 : ∀ z, x ≠ .str z) : okS x ds = fun G' => vS G' x = some ds := by
  cases x with
  | tup es => exact absurd rfl (h1 es)
  | str z => exact absurd rfl (h2 z)
  | _ => rfl
section
variable {X : Cx}
theorem cb_lenF : DCB X (.builtin "len") iLenF := DCB.weak cb_lenA fun xs G Q ⟨x, n, e, h, q⟩ => by
  subst e
  cases x with
  | lst ds => cases h; exact .inl ⟨_, rfl, .inl ⟨ds, rfl, q⟩⟩
  | scr ds => cases h; exact .inl ⟨_, rfl, .inl ⟨ds, rfl, q⟩⟩
  | tup ds => cases h; exact .inl ⟨_, rfl, .inr (.inl ⟨ds, rfl, q⟩)⟩
  | str z =>
    have h : (if z.length ≤ sizeLine then some z.length else none) = some n := h
    split at h
    · cases h; exact .inl ⟨_, rfl, .inr (.inr ⟨z, rfl, by assumption, q⟩)⟩
    · cases h
  | ref a =>
    have h : lenO (G a) = some n := h
    cases e : G a with
    | none => rw [e] at h; cases h
    | some o =>
      rw [e] at h
      cases o with
      | lst ds => cases h; exact .inl ⟨_, rfl, .inl ⟨ds, vL_ref e, q⟩⟩
      | dk kvs => cases h; exact .inr ⟨a, kvs, rfl, .inl e, q⟩
      | dn kvs => cases h; exact .inr ⟨a, kvs, rfl, .inr e, q⟩
      | _ => cases h
  | _ => cases h
theorem de_ixF {a b : Expr} {pos : Pos} {ta tb : RE} (ha : DE X a ta) (hb : DE X b tb) (hs : PlainIx b := by exact fun _ _ => rfl) : DE X (.Subscript a b pos) (dOp iIxF ta tb) := by
  have w : ∀ x y G Q, iIxF x y G Q → iIx x y G Q := fun x y G Q ⟨i, d, e, h, q⟩ => by
    refine ⟨i, e, ?_⟩
    cases x with
    | lst ds => exact .inl ⟨ds, d, rfl, h, q⟩
    | scr ds => exact .inl ⟨ds, d, rfl, h, q⟩
    | tup ds => exact .inr (.inl ⟨ds, d, rfl, h, q⟩)
    | str z =>
      have h : (if z.length ≤ sizeLine then (atI z.cps.toList i).map fun c => D.str ⟨#[c]⟩ else none) = some d := h
      split at h
      · cases e : atI z.cps.toList i with
        | none => rw [e] at h; cases h
        | some c => rw [e] at h; cases h; exact .inr (.inr ⟨z, c, rfl, by assumption, e, q⟩)
      · cases h
    | ref a =>
      have h : ixO (G a) i = some d := h
      cases e : G a with
      | none => rw [e] at h; cases h
      | some o =>
        rw [e] at h
        cases o with
        | lst ds => exact .inl ⟨ds, d, vL_ref e, h, q⟩
        | _ => cases h
    | _ => cases h
  exact PE.weak (pe_ix ix_seq ha hb hs) (lift_op (B := bkx X) fun H G v u x y Qd Q R i j q0 k => by
    obtain ⟨n, e, q⟩ := w _ _ _ _ q0
    clear q0
    subst e
    cases j
    rcases q with ⟨ds, d, h1, h2, q⟩ | ⟨ds, d, h1, h2, q⟩ | ⟨z, c, h1, h2, h3, q⟩
    · obtain ⟨p, vs, rfl, hp, r⟩ := vS_at R i h1
      obtain ⟨w, hw, iw⟩ := atI_ds r h2
      exact .inl ⟨p, vs, n, w, rfl, rfl, hp, hw, k _ _ _ _ (.refl R) iw q⟩
    · subst h1
      obtain ⟨p, vs, rfl, hp, r⟩ := tup_at i
      obtain ⟨w, hw, iw⟩ := atI_ds r h2
      exact .inr (.inl ⟨p, vs, n, w, rfl, rfl, hp, hw, k _ _ _ _ (.refl R) iw q⟩)
    · subst h1
      cases i
      exact .inr (.inr ⟨z, n, c, rfl, rfl, h2, h3, k _ _ _ _ (.refl R) (.str _) q⟩))
/-- a reading with its aftermath made weaker -/
def mo (t : RE) : RE := fun τ G Q => ∃ Q', t τ G Q' ∧ ∀ d G', Q' d G' → Q d G'
def moA (t : RA) : RA := fun τ G Q => ∃ Q', t τ G Q' ∧ ∀ d G', Q' d G' → Q d G'
theorem de_mo {e : Expr} {t : RE} (h : DE X e t) : DE X e (mo t) := PE.weak h fun σ H Q ⟨τ, G, Qd, a, ⟨Q', q, w⟩, k⟩ => ⟨τ, G, Q', a, q, fun v H' d G' g i q1 => k v H' d G' g i (w _ _ q1)⟩
theorem da_mo {es : List Expr} {t : RA} (h : DA X es t) : DA X es (moA t) := PA.weak h fun σ H Q ⟨τ, G, Qd, a, ⟨Q', q, w⟩, k⟩ => ⟨τ, G, Q', a, q, fun v H' d G' g i l q1 => k v H' d G' g i l (w _ _ q1)⟩
theorem ds_dputF {o i e : Expr} {pos tpos : Pos} {to ti tv : RE} (hu : X.A.units + 16 < cLine) (ho : DE X o to) (hi : DE X i ti) (he : DE X e tv) (hs : swapsWithSole [.Subscript o i tpos] e pos.line X.env = pure false := by rfl) (hw : swappedStores [.Subscript o i tpos] e X.env = pure none := by rfl)
    (h1 : (assignEach [.Subscript o i tpos] X.env).map (·.2) = [assign (.Subscript o i tpos) X.env] := by rfl)
    (ha : ∀ v, assign (.Subscript o i tpos) X.env v = (do
      let ov ← holding [v] (eval o X.env)
      let iv ← holding [v, ov] (eval i X.env)
      standAt tpos
      holding [v, ov, iv] (setItem ov iv v)
      release [v, ov, iv] []) := by intro _; rfl) : DS X (.Assign [.Subscript o i tpos] e pos) (sDPutF to ti tv) :=
  DS.weak (ds_dput hu (de_mo ho) (de_mo hi) (de_mo he) hs hw h1 ha) fun E τ G q => ⟨_, q, fun v G1 q1 => ⟨_, q1, fun x G2 q2 => ⟨_, q2, fun k G3 ⟨a, ob, ex, h, q3⟩ => by
    refine ⟨a, ex, ?_⟩
    cases e : G3 a with
    | none => rw [e] at h; cases h
    | some o =>
      rw [e] at h
      cases o with
      | dk kvs =>
        have h : (if isK k = true ∧ kvs.length < sizeLine then some (DO.dk (dputL kvs k v)) else none) = some ob := h
        split at h
        · rename_i c
          cases h
          exact .inl ⟨kvs, rfl, c.1, c.2, q3⟩
        · cases h
      | dn kvs =>
        have h : (if isN k = true ∧ kvs.length < sizeLine then some (DO.dn (dputL kvs k v)) else none) = some ob := h
        split at h
        · rename_i c
          cases h
          exact .inr ⟨kvs, rfl, c.1, c.2, q3⟩
        · cases h
      | _ => cases h⟩⟩⟩
theorem isDictF_G {G : DG} {x : D} (h : isDictF G x = true) : isDictG G x := by
  cases x with
  | ref a =>
    have h : isDictO (G a) = true := h
    refine ⟨a, rfl, ?_⟩
    cases e : G a with
    | none => rw [e] at h; cases h
    | some o =>
      rw [e] at h
      cases o with
      | dk kvs => exact .inl ⟨_, rfl⟩
      | dn kvs => exact .inr (.inl ⟨_, rfl⟩)
      | lk od u kvs => exact .inr (.inr ⟨_, _, _, rfl⟩)
      | _ => cases h
  | _ => cases h
theorem de_dpop1F {o e : Expr} {apos cpos : Pos} {td tk : RE} (hu : X.A.units + 16 < cLine) (ho : DE X o td) (he : DE X e tk) (m : M1 X o "pop" apos e cpos := by exact ⟨rfl, rfl, rfl, rfl⟩) : DE X (.Call (.Attribute o "pop" apos) [e] [] cpos) (dDPop1F td tk) :=
  DE.weak (de_dpop1 hu (de_mo ho) (de_mo he) m) fun τ G Q q => ⟨_, q, fun x G1 ⟨hd, q1⟩ => ⟨isDictF_G hd, _, q1, fun k G2 ⟨a, d, ob, ex, h, q2⟩ => by
    cases e : G2 a with
    | none => rw [e] at h; cases h
    | some o =>
      rw [e] at h
      cases o with
      | dk kvs =>
        have h : (if isK k = true then (dgetL kvs k).map fun d => (d, DO.dk (ddelL kvs k)) else none) = some (d, ob) := h
        split at h
        · rename_i c
          cases g : dgetL kvs k with
          | none => rw [g] at h; cases h
          | some d' => rw [g] at h; cases h; exact ⟨a, kvs, d, ex, g, .inl ⟨e, c, q2⟩⟩
        · cases h
      | dn kvs =>
        have h : (if isN k = true then (dgetL kvs k).map fun d => (d, DO.dn (ddelL kvs k)) else none) = some (d, ob) := h
        split at h
        · rename_i c
          cases g : dgetL kvs k with
          | none => rw [g] at h; cases h
          | some d' => rw [g] at h; cases h; exact ⟨a, kvs, d, ex, g, .inr ⟨e, c, q2⟩⟩
        · cases h
      | _ => cases h⟩⟩
theorem de_dget2F {o e f : Expr} {apos cpos : Pos} {td tk tx : RE} (hu : X.A.units + 16 < cLine) (ho : DE X o td) (he : DE X e tk) (hf : DE X f tx) (m : M2 X o "get" apos e f cpos := by exact ⟨rfl, rfl, rfl, rfl⟩) : DE X (.Call (.Attribute o "get" apos) [e, f] [] cpos) (dDGet2F td tk tx) :=
  DE.weak (de_dget2 hu (de_mo ho) he hf m) fun τ G Q q => ⟨_, q, fun x G1 ⟨hd, q1⟩ => ⟨isDictF_G hd, q1⟩⟩
theorem di_seqF {tg e : Expr} {t : RE} (h : DE X e t) : DI X tg e (wSeqF t) :=
  DI.weak (di_seq (de_mo h)) fun τ G R q => ⟨_, q, fun x G1 ⟨ds, hx, q1⟩ => by
    by_cases hs : ∃ z, x = .str z
    · obtain ⟨z, rfl⟩ := hs
      cases hx
      exact .inr (.inr ⟨z, rfl, q1⟩)
    · have hx : tupOf G1 x = some ds := by
        cases x with
        | str z => exact absurd ⟨z, rfl⟩ hs
        | _ => exact hx
      rcases tupOf_cases hx with e | ⟨h1, h2, h3⟩
      · subst e
        exact .inr (.inl ⟨ds, rfl, q1⟩)
      · rw [okS_vS h1 h2] at q1
        exact .inl ⟨ds, h3, q1⟩⟩
theorem di_enumF {e : Expr} {t : RA} {p pos tpos : Pos} {elts : List Expr} {kk : Nat} (hm : X.mg "enumerate" = none) (ha : DA X [e] t) (hg : Gl X "enumerate" := by rfl) (hs : starEach [e] X.env = [(false, eval e X.env)] := by rfl) :
    DI X (.Tuple elts kk tpos) (.Call (.Name "enumerate" p) [e] [] pos) (wEnumF t) :=
  DI.weak (di_enumS hm (da_mo ha) hg hs) fun τ G R q => ⟨_, q, fun xs G1 ⟨x, ds, e, hx, q1⟩ => by
    subst e
    rcases tupOf_cases hx with e | ⟨h1, h2, h3⟩
    · subst e
      exact ⟨_, ds, rfl, .inr ⟨rfl, q1⟩⟩
    · rw [okS_vS h1 h2] at q1
      exact ⟨x, ds, rfl, .inl ⟨h3, q1⟩⟩⟩
theorem cb_tupleF : DCB X (.type "tuple") iTupleF := DCB.weak cb_tuple fun xs G Q ⟨x, ds, e, h, q⟩ => by
  subst e
  rcases tupOf_cases h with e | ⟨_, _, h3⟩
  · subst e
    exact ⟨_, rfl, .inr ⟨ds, rfl, q⟩⟩
  · exact ⟨_, rfl, .inl ⟨ds, h3, q⟩⟩
theorem cb_listF : DCB X (.type "list") iListF := DCB.weak cb_list fun xs G Q ⟨x, ds, e, h, q⟩ => by
  subst e
  rcases tupOf_cases h with e | ⟨_, _, h3⟩
  · subst e
    exact ⟨_, _, rfl, .inr rfl, q⟩
  · exact ⟨_, _, rfl, .inl h3, q⟩
theorem cb_listMF : DCB X (.type "list") iListMF := DCB.weak cb_listM fun xs G Q ⟨x, ds, e, h, q⟩ => by
  subst e
  rcases tupOf_cases h with e | ⟨_, _, h3⟩
  · subst e
    exact ⟨_, _, rfl, .inr rfl, q⟩
  · exact ⟨_, _, rfl, .inl h3, q⟩
theorem cb_intF : DCB X (.type "int") iIntF := DCB.weak cb_int fun xs G Q ⟨x, i, e, h, q⟩ => by
  subst e
  cases x with
  | int j => cases h; exact .inl ⟨_, rfl, q⟩
  | bl k => cases h; exact .inr ⟨_, rfl, q⟩
  | _ => cases h
theorem deqSF : DOp X (compareOp .Eq) iEqSF := DOp.weak deqS fun x y G Q ⟨b, h, q⟩ => by
  cases x <;> cases y <;> first | cases h | skip
  · exact .inr (.inr ⟨_, _, rfl, rfl, q⟩)
  · exact .inl ⟨_, _, rfl, rfl, q⟩
  · exact .inr (.inl ⟨_, _, rfl, rfl, q⟩)
theorem dneSF : DOp X (compareOp .NotEq) iNeSF := DOp.weak dneS fun x y G Q ⟨b, h, q⟩ => by
  cases x <;> cases y <;> first | cases h | skip
  · exact .inr (.inr ⟨_, _, rfl, rfl, q⟩)
  · exact .inl ⟨_, _, rfl, rfl, q⟩
  · exact .inr (.inl ⟨_, _, rfl, rfl, q⟩)
end
/-! what each is on each kind -/
section
variable {G : DG} {a : Addr} {ds es : List D} {i j : Int} {b c : Bool} {x y : Str} {k v : D} {kvs : List (D × D)} {od : Obj} {u : HO}
theorem lenOf_lst : lenOf G (.lst ds) = some ds.length := rfl
theorem lenOf_tup : lenOf G (.tup ds) = some ds.length := rfl
theorem lenOf_scr : lenOf G (.scr ds) = some ds.length := rfl
theorem lenOf_ref : lenOf G (.ref a) = lenO (G a) := rfl
theorem lenO_lst : lenO (some (.lst ds)) = some ds.length := rfl
theorem lenO_dk : lenO (some (.dk kvs)) = some kvs.length := rfl
theorem lenO_dn : lenO (some (.dn kvs)) = some kvs.length := rfl
theorem ixOf_lst : ixOf G (.lst ds) i = atI ds i := rfl
theorem ixOf_tup : ixOf G (.tup ds) i = atI ds i := rfl
theorem ixOf_scr : ixOf G (.scr ds) i = atI ds i := rfl
theorem ixOf_ref : ixOf G (.ref a) i = ixO (G a) i := rfl
theorem ixO_lst : ixO (some (.lst ds)) i = atI ds i := rfl
theorem tupOf_lst : tupOf G (.lst ds) = some ds := rfl
theorem tupOf_tup : tupOf G (.tup ds) = some ds := rfl
theorem tupOf_scr : tupOf G (.scr ds) = some ds := rfl
theorem tupOf_ref : tupOf G (.ref a) = seqO (G a) := rfl
theorem seqOf_lst : seqOf G (.lst ds) = some ds := rfl
theorem seqOf_tup : seqOf G (.tup ds) = some ds := rfl
theorem seqOf_scr : seqOf G (.scr ds) = some ds := rfl
theorem seqOf_str : seqOf G (.str x) = some (strD x) := rfl
theorem seqOf_ref : seqOf G (.ref a) = seqO (G a) := rfl
theorem seqO_lst : seqO (some (.lst ds)) = some ds := rfl
theorem intOf_int : intOf (.int i) = some i := rfl
theorem intOf_bl : intOf (.bl b) = some (if b = true then 1 else 0) := rfl
theorem eqOf_int : eqOf (.int i) (.int j) = some (decide (i = j)) := rfl
theorem eqOf_bl : eqOf (.bl b) (.bl c) = some (decide (b = c)) := rfl
theorem eqOf_str : eqOf (.str x) (.str y) = some (decide (x = y)) := rfl
theorem isDictF_ref : isDictF G (.ref a) = isDictO (G a) := rfl
theorem isDictO_dk : isDictO (some (.dk kvs)) = true := rfl
theorem isDictO_dn : isDictO (some (.dn kvs)) = true := rfl
theorem isDictO_lk : isDictO (some (.lk od u kvs)) = true := rfl
theorem putO_dk (h : isK k = true) (hl : kvs.length < sizeLine) : putO (some (.dk kvs)) k v = some (.dk (dputL kvs k v)) := by
  show (if _ then _ else _) = _
  rw [if_pos ⟨h, hl⟩]
theorem putO_dn (h : isN k = true) (hl : kvs.length < sizeLine) : putO (some (.dn kvs)) k v = some (.dn (dputL kvs k v)) := by
  show (if _ then _ else _) = _
  rw [if_pos ⟨h, hl⟩]
end
end QF
/-! QR: lists unpacked; repeated lists that are changed later. -/
namespace QF
open PySem L2
section
variable {X : Cx}
def sAsgL (t : RE) (gs : List Tg) : RS := fun D τ G => t τ G fun d G1 => ∃ ds τ', tupOf G1 d = some ds ∧ (∀ es, d ≠ .tup es) ∧ Tg.puts gs ds τ = some τ' ∧ D.nx τ' G1
theorem ds_asgL {es : List Expr} {kk : Nat} {tpos pos : Pos} {e : Expr} {t : RE} {gs : List Tg} (hc : X.calm = true) (he : DE X e t) (hg : DTgs X es gs) (hn : (assignEach es X.env).length = gs.length := by rfl) (hst : (assignEach es X.env).findIdx? (·.1) = none := by rfl)
    (hs : swapsWithSole [.Tuple es kk tpos] e pos.line X.env = pure false := by rfl) (hw : swappedStores [.Tuple es kk tpos] e X.env = pure none := by rfl)
    (h1 : (assignEach [.Tuple es kk tpos] X.env).map (·.2) = [assign (.Tuple es kk tpos) X.env] := by rfl) : DS X (.Assign [.Tuple es kk tpos] e pos) (sAsgL t gs) :=
  PS.weak (ps_asg he (pg_lst hc hg hn hst) hs hw h1) fun D σ H ⟨τ, G, Dd, a, q, k⟩ => liftE_of a q fun v H1 d G1 g1 i1 ⟨ds, τ', hd, nt, hp, q1⟩ => by
    rcases tupOf_cases hd with e | ⟨_, _, h3⟩
    · exact absurd e (nt _)
    · obtain ⟨p, us, rfl, hq, r⟩ := vS_at g1.r i1 h3
      exact ⟨p, us, rfl, hq, by rw [r.length, puts_len gs hp], hgs_ok (B := bkx X) (vs := Tg.slotss gs) gs (fun _ h => h) r (a.go g1).s hp fun σ' r' _ => k.nx _ _ _ _ g1 r' q1⟩
abbrev iRepM : DR2 := fun x y G Q => ∃ a n, tupOf G x = some a ∧ (∀ es, x ≠ .tup es) ∧ (∀ es, x ≠ .scr es) ∧ y = .int n ∧ -(2 ^ 63) ≤ n ∧ n < 2 ^ 63 ∧ a.length * n.toNat ≤ sizeLine ∧ ∀ l, G l = none → Q (.ref l) (up G l (.lst (List.replicate n.toNat a).flatten))
theorem drepM : DOp X (binaryOp .Mult) iRepM :=
  ⟨_, op_rep, fun H G v u x y Qd Q R i j ⟨a, n, ex, nt, ns, ey, c1, c2, c3, q⟩ k => by
    have ex : vL G x = some a := by
      rcases tupOf_cases ex with e | ⟨_, _, h3⟩
      · exact absurd e (nt _)
      · cases x with
        | scr es => exact absurd rfl (ns es)
        | _ => exact h3
    obtain ⟨p, vs, rfl, h1, r1⟩ := vL_at R i ex
    subst ey
    cases j
    refine ⟨p, n, vs, rfl, rfl, h1, c1, c2, by rw [r1.length]; exact c3, fun l hl => ?_⟩
    exact k _ _ _ _ (new_lstM R hl (r1.rep n.toNat)) (.ref l) (q l (R.free hl))⟩
end
end QF
/-! the defs by places, their readings: printed by gen.py -/
namespace QF
open PySem L2
def R_law_at : RS :=
  (sSeq (sIf (dTest (dOp (iI0 fun i j => .bl (decide (i < j))) (dVar 1) (dCB iLenF (daCons (dVar 0) daNil)))) (sRet (dOp iIxF (dVar 0) (dVar 1))) sNext)
    (sRet (dC (.int 0))))
abbrev N_law_at : List Str := ["_law_script", "_law_k"]
def R_law_mixed : RS :=
  (sSeq (sSet 0 (dOp (iI (fun _ j => 0 < j) fun i j => .int (i % j)) (dOp (iI0 fun i j => .int (i + j)) (dOp (iI (fun _ j => 0 < j) fun i j => .int (i % j)) (dVar 0) (dC (.int 2147483629))) (dOp (iI CMul fun i j => .int (i * j)) (dC (.int 48271)) (dOp (iI0 fun i j => .int (i + j)) (dVar 1) (dC (.int 1))))) (dC (.int 2147483629))))
    (sRet (dOp (iI0 fun i j => .int (i + j)) (dC (.int 1)) (dOp (iI (fun _ j => 0 < j) fun i j => .int (i % j)) (dOp (iI0 fun i j => .int (i + j)) (dOp (iI0 fun i j => .int (i + j)) (dOp (iI CMul fun i j => .int (i * j)) (dVar 0) (dVar 0)) (dOp (iI CMul fun i j => .int (i * j)) (dC (.int 39373)) (dVar 0))) (dOp (iI CMul fun i j => .int (i * j)) (dC (.int 7)) (dVar 1))) (dC (.int 2147483629))))))
abbrev N_law_mixed : List Str := ["_law_number_here", "_law_k"]
def R_law_row (s_law_at s_law_mixed : DSp) : RS :=
  (sSeq (sSet 4 (dOp (iI0 fun i j => .int (i - j)) (dCall s_law_at dx0 (daCons (dVar 0) (daCons (dVar 1) daNil))) (dOp (iI CPow fun i j => .int (i ^ j.toNat)) (dC (.int 10)) (dC (.int 18)))))
    (sSeq (sSet 5 (dLstM daNil))
    (sSeq (sFor (wRng1 (daCons (dVar 2) daNil)) (.nm 6)
    (sSeq (sIf (dTest (dOp (iI0 fun i j => .bl (decide (i < j))) (dVar 4) (dC (.int 1)))) (sSet 4 (dCall s_law_mixed dx0 (daCons (dOp (iI0 fun i j => .int (i + j)) (dCall s_law_at dx0 (daCons (dVar 0) (daCons (dVar 1) daNil))) (dOp (iI CMul fun i j => .int (i * j)) (dC (.int 97)) (dCall s_law_at dx0 (daCons (dVar 0) (daCons (dOp (iI0 fun i j => .int (i + j)) (dVar 1) (dOp (iI (fun _ j => 0 < j) fun i j => .int (i % j)) (dVar 6) (dC (.int 40)))) daNil))))) (daCons (dOp (iI0 fun i j => .int (i + j)) (dOp (iI CMul fun i j => .int (i * j)) (dC (.int 31)) (dVar 1)) (dVar 6)) daNil)))) sNext)
    (sSeq (sDrop (dBM "list" iAppend (dVar 5) (daCons (dOp (iI (fun _ j => 0 < j) fun i j => .int (i % j)) (dVar 4) (dVar 3)) daNil)))
    (sSet 4 (dOp (iI CDiv fun i j => .int (i / j)) (dVar 4) (dVar 3))))))
    (sRet (dVar 5)))))
abbrev N_law_row : List Str := ["_law_script", "_law_k", "_law_many", "_law_base", "_law_left", "_law_found", "_law_turn"]
def R_law_bounds : RS :=
  (sSeq (sIf (dTest (dOp (iEq) (dVar 0) (dLst daNil))) (sRet (dC .non)) sNext)
    (sSeq (sSet 1 (dFin (dLcM (wSeqF (dVar 0)) (.tp [(.nm 2), (.nm 3)]) dYes (dVar 2) [2, 3])))
    (sSeq (sSet 4 (dFin (dLcM (wSeqF (dVar 0)) (.tp [(.nm 2), (.nm 3)]) dYes (dVar 3) [2, 3])))
    (sRet (dTup (daCons (dCB iMinL (daCons (dVar 1) daNil)) (daCons (dCB iMinL (daCons (dVar 4) daNil)) (daCons (dCB iMaxL (daCons (dVar 1) daNil)) (daCons (dCB iMaxL (daCons (dVar 4) daNil)) daNil)))))))))
abbrev N_law_bounds : List Str := ["_law_cells_here", "_law_rows", "_law_row_here", "_law_column", "_law_columns"]
def R_law_moves (s_law_bounds : DSp) : RS :=
  (sSeq (sSet 2 (dCall s_law_bounds dx0 (daCons (dVar 0) daNil)))
    (sSeq (sIf (dTest (dOp (iIsN) (dVar 2) (dC .non))) (sRet (dLst (daCons (dTup (daCons (dC (.int 0)) (daCons (dC (.int 0)) daNil))) daNil))) sNext)
    (sSeq (sSet 3 (dLstM daNil))
    (sSeq (sFor (wRng2 (daCons (dUn (iU fun i => .int (-i)) (dOp iIxF (dVar 2) (dC (.int 0)))) (daCons (dOp (iI0 fun i j => .int (i - j)) (dVar 1) (dOp iIxF (dVar 2) (dC (.int 2)))) daNil))) (.nm 4)
    (sDrop (dBM "list" iExtend (dVar 3) (daCons (dFin (dLcM (wRng2 (daCons (dUn (iU fun i => .int (-i)) (dOp iIxF (dVar 2) (dC (.int 1)))) (daCons (dOp (iI0 fun i j => .int (i - j)) (dVar 1) (dOp iIxF (dVar 2) (dC (.int 3)))) daNil))) (.nm 5) dYes (dTup (daCons (dVar 4) (daCons (dVar 5) daNil))) [5])) daNil))))
    (sRet (dVar 3))))))
abbrev N_law_moves : List Str := ["_law_cells_here", "_law_side", "_law_ends", "_law_found", "_law_down", "_law_right_here"]
def R_law_parted : RS :=
  (sSeq (sSet 2 (dLstM daNil))
    (sSeq (sFor (wRng2 (daCons (dC (.int 1)) (daCons (dOp (iI0 fun i j => .int (i + j)) (dVar 1) (dC (.int 1))) daNil))) (.nm 3)
    (sSeq (sSet 4 dDNewN)
    (sSeq (sFor (wSeqF (dVar 0)) (.tp [(.nm 5), (.nm 6)])
    (sSeq (sSet 7 (dTup (daCons (dOp (iI (fun _ j => 0 ≤ j) fun i j => .int (i / 2 ^ j.toNat)) (dVar 5) (dVar 3)) (daCons (dOp (iI (fun _ j => 0 ≤ j) fun i j => .int (i / 2 ^ j.toNat)) (dVar 6) (dVar 3)) daNil))))
    (sDPutF (dVar 4) (dVar 7) (dOp (iI0 fun i j => .int (i + j)) (dDGet2F (dVar 4) (dVar 7) (dC (.int 0))) (dC (.int 1))))))
    (sLock (sDrop (dBM "list" iAppend (dVar 2) (daCons (dCB iLenF (daCons (dFin (dLcM (wKeys (dVar 4)) (.nm 7) (dTest (dOp (iI0 fun i j => .bl (decide (i < j))) (dDGet (dVar 4) (dVar 7)) (dOp (iI CPow fun i j => .int (i * 2 ^ j.toNat)) (dC (.int 1)) (dOp (iI CMul fun i j => .int (i * j)) (dC (.int 2)) (dVar 3))))) (dVar 7) [7])) daNil)) daNil)))))))
    (sRet (dVar 2))))
abbrev N_law_parted : List Str := ["_law_cells_here", "_law_n", "_law_found", "_law_k", "_law_lots", "_law_row_here", "_law_column", "_law_label"]
def R_law_moved : RS :=
  (sRet (dFin (dLcM (wSeqF (dVar 0)) (.tp [(.nm 2), (.nm 3)]) dYes (dTup (daCons (dOp (iI0 fun i j => .int (i + j)) (dVar 2) (dOp iIxF (dVar 1) (dC (.int 0)))) (daCons (dOp (iI0 fun i j => .int (i + j)) (dVar 3) (dOp iIxF (dVar 1) (dC (.int 1)))) daNil))) [2, 3])))
abbrev N_law_moved : List Str := ["_law_cells_here", "_law_move", "_law_row_here", "_law_column"]
def R_is_whole : RS :=
  (sRet (dAndV (dCB iIsi (daCons (dVar 0) (daCons (dC (.ty "int")) daNil))) (dNotV (dCB iIsi (daCons (dVar 0) (daCons (dC (.ty "bool")) daNil))))))
abbrev N_is_whole : List Str := ["thing"]
def R_is_size (s_is_whole : DSp) : RS :=
  (sRet (dAndV (dCall s_is_whole dx0 (daCons (dVar 0) daNil)) (dChain (iI0 fun i j => .bl (decide (i ≤ j))) (iI0 fun i j => .bl (decide (i ≤ j))) (dC (.int 0)) (dVar 0) (dC (.int 12)))))
abbrev N_is_size : List Str := ["thing"]
def R_is_number (s_is_whole : DSp) : RS :=
  (sRet (dAndV (dCall s_is_whole dx0 (daCons (dVar 0) daNil)) (dChain (iI0 fun i j => .bl (decide (i ≤ j))) (iI0 fun i j => .bl (decide (i < j))) (dC (.int 0)) (dVar 0) (dVar 1))))
abbrev N_is_number : List Str := ["thing", "most"]
def R_is_row (s_is_number : DSp) : RS :=
  (sRet (dAndV (dCB iIsi (daCons (dVar 0) (daCons (dC (.ty "tuple")) daNil))) (dAndV (dOp (iEqSF) (dCB iLenF (daCons (dVar 0) daNil)) (dC (.int 4))) (dCB iAll (daCons (dFin (dLcM (wSeqF (dVar 0)) (.nm 2) dYes (dCall s_is_number dx0 (daCons (dVar 2) (daCons (dOp (iI0 fun i j => .int (i + j)) (dVar 1) (dC (.int 2))) daNil))) [2])) daNil)))))
abbrev N_is_row : List Str := ["thing", "place", "one"]
def R_depths_of : RS :=
  (sSeq (sSet 1 (dLstM (daCons (dC (.int 0)) (daCons (dC (.int 0)) daNil))))
    (sSeq (sFor (wSeqF (dVar 0)) (.nm 2)
    (sDrop (dBM "list" iAppend (dVar 1) (daCons (dOp (iI0 fun i j => .int (i + j)) (dC (.int 1)) (dCB iMaxL (daCons (dFin (dLcM (wSeqF (dVar 2)) (.nm 3) dYes (dOp iIxF (dVar 1) (dVar 3)) [3])) daNil))) daNil))))
    (sRet (dVar 1))))
abbrev N_depths_of : List Str := ["rows", "found", "row", "number"]
def R_is_telling (s_is_size s_is_row s_is_number s_depths_of : DSp) : RS :=
  (sSeq (sIf (dOrT (dNotT (dTest (dCB iIsi (daCons (dVar 0) (daCons (dC (.ty "tuple")) daNil))))) (dOrT (dTest (dOp (iNeSF) (dCB iLenF (daCons (dVar 0) daNil)) (dC (.int 3)))) (dOrT (dNotT (dTest (dCall s_is_size dx0 (daCons (dOp iIxF (dVar 0) (dC (.int 0))) daNil)))) (dNotT (dTest (dCB iIsi (daCons (dOp iIxF (dVar 0) (dC (.int 2))) (daCons (dC (.ty "tuple")) daNil)))))))) (sRet (dC (.bl false))) sNext)
    (sSeq (sAsg (dVar 0) (.tp [(.nm 1), (.nm 2), (.nm 3)]))
    (sSeq (sIf (dOrT (dNotT (dTest (dCB iAll (daCons (dFin (dLcM (wEnumF (daCons (dVar 3) daNil)) (.tp [(.nm 4), (.nm 5)]) dYes (dCall s_is_row dx0 (daCons (dVar 5) (daCons (dVar 4) daNil))) [4, 5])) daNil)))) (dNotT (dTest (dCall s_is_number dx0 (daCons (dVar 2) (daCons (dOp (iI0 fun i j => .int (i + j)) (dCB iLenF (daCons (dVar 3) daNil)) (dC (.int 2))) daNil)))))) (sRet (dC (.bl false))) sNext)
    (sRet (dOp (iI0 fun i j => .bl (decide (i ≤ j))) (dOp iIxF (dCall s_depths_of dx0 (daCons (dVar 3) daNil)) (dVar 2)) (dVar 1))))))
abbrev N_is_telling : List Str := ["thing", "n", "top", "rows", "place", "row"]
def R_Rows_init (C_Rows : Addr) : RS :=
  (sSeq (sFldSet C_Rows "rows" (dVar 0) (dLstM daNil))
    (sFldSet C_Rows "numbers" (dVar 0) dDNewN))
abbrev N_Rows_init : List Str := ["self"]
def R_Rows_number (C_Rows : Addr) : RS :=
  (sSeq (sIf (dTest (dOp (iSin) (dVar 1) (dTup (daCons (dTup (daCons (dC (.int 0)) (daCons (dC (.int 0)) (daCons (dC (.int 0)) (daCons (dC (.int 0)) daNil))))) (daCons (dTup (daCons (dC (.int 1)) (daCons (dC (.int 1)) (daCons (dC (.int 1)) (daCons (dC (.int 1)) daNil))))) daNil))))) (sRet (dOp iIxF (dVar 1) (dC (.int 0)))) sNext)
    (sSeq (sIf (dTest (dOp (iDnotin) (dVar 1) (dFld C_Rows "numbers" (dVar 0)))) (sSeq (sDrop (dBM "list" iAppend (dFld C_Rows "rows" (dVar 0)) (daCons (dVar 1) daNil)))
    (sDPutF (dFld C_Rows "numbers" (dVar 0)) (dVar 1) (dOp (iI0 fun i j => .int (i + j)) (dCB iLenF (daCons (dFld C_Rows "rows" (dVar 0)) daNil)) (dC (.int 1))))) sNext)
    (sRet (dDGet (dFld C_Rows "numbers" (dVar 0)) (dVar 1)))))
abbrev N_Rows_number : List Str := ["self", "quarters"]
def R_Rows_take (C_Rows : Addr) (s_Rows_number : DSp) : RS :=
  (sSeq (sAsg (dVar 1) (.tp [(.nm 2), (.nm 3), (.nm 4)]))
    (sSeq (sSet 5 (dLstM (daCons (dC (.int 0)) (daCons (dC (.int 1)) daNil))))
    (sSeq (sFor (wSeqF (dVar 4)) (.nm 6)
    (sDrop (dBM "list" iAppend (dVar 5) (daCons (dMeth C_Rows "number" s_Rows_number dx0 (dVar 0) (daCons (dCB iTupleF (daCons (dFin (dLcM (wSeqF (dVar 6)) (.nm 7) dYes (dOp iIxF (dVar 5) (dVar 7)) [7])) daNil)) daNil)) daNil))))
    (sRet (dOp iIxF (dVar 5) (dVar 3))))))
abbrev N_Rows_take : List Str := ["self", "telling", "n", "top", "rows", "here", "row", "number"]
def R_Rows_quarters (C_Rows : Addr) : RS :=
  (sSeq (sIf (dTest (dOp (iI0 fun i j => .bl (decide (i < j))) (dVar 1) (dC (.int 2)))) (sRet (dTup (daCons (dVar 1) (daCons (dVar 1) (daCons (dVar 1) (daCons (dVar 1) daNil)))))) sNext)
    (sRet (dOp iIxF (dFld C_Rows "rows" (dVar 0)) (dOp (iI0 fun i j => .int (i - j)) (dVar 1) (dC (.int 2))))))
abbrev N_Rows_quarters : List Str := ["self", "number"]
def R_Rows_order (C_Rows : Addr) (s_Rows_quarters s_Rows_order : DSp) : RS :=
  (sIf (dAndT (dTest (dOp (iI0 fun i j => .bl (decide (j < i))) (dVar 1) (dC (.int 1)))) (dTest (dOp (iDnotin) (dVar 1) (dVar 2)))) (sSeq (sFor (wSeqF (dMeth C_Rows "quarters" s_Rows_quarters dx0 (dVar 0) (daCons (dVar 1) daNil))) (.nm 3)
    (sDrop (dMeth C_Rows "order" s_Rows_order dx0 (dVar 0) (daCons (dVar 3) (daCons (dVar 2) daNil)))))
    (sDPutF (dVar 2) (dVar 1) (dOp (iI0 fun i j => .int (i + j)) (dCB iLenF (daCons (dVar 2) daNil)) (dC (.int 2))))) sNext)
abbrev N_Rows_order : List Str := ["self", "number", "found", "quarter"]
def R_Rows_shape (C_Rows : Addr) (s_Rows_order s_Rows_quarters : DSp) : RS :=
  (sSeq (sSet 3 dDNewK)
    (sSeq (sDrop (dMeth C_Rows "order" s_Rows_order dx0 (dVar 0) (daCons (dVar 2) (daCons (dVar 3) daNil))))
    (sSeq (sDPutF (dVar 3) (dC (.int 0)) (dC (.int 0)))
    (sSeq (sDPutF (dVar 3) (dC (.int 1)) (dC (.int 1)))
    (sSeq (sSet 4 (dLstM daNil))
    (sSeq (sLock (sFor (wKeys (dVar 3)) (.nm 5)
    (sIf (dTest (dOp (iI0 fun i j => .bl (decide (j < i))) (dVar 5) (dC (.int 1)))) (sDrop (dBM "list" iAppend (dVar 4) (daCons (dCB iTupleF (daCons (dFin (dLcM (wSeqF (dMeth C_Rows "quarters" s_Rows_quarters dx0 (dVar 0) (daCons (dVar 5) daNil))) (.nm 6) dYes (dDGet (dVar 3) (dVar 6)) [6])) daNil)) daNil))) sNext)))
    (sRet (dTup (daCons (dVar 1) (daCons (dDGet (dVar 3) (dVar 2)) (daCons (dCB iTupleF (daCons (dVar 4) daNil)) daNil)))))))))))
abbrev N_Rows_shape : List Str := ["self", "n", "top", "new", "rows", "number", "quarter"]
def R_one_of (C_Rows : Addr) (s_Rows_init s_Rows_take s_Rows_shape : DSp) : RS :=
  (sSeq (sSet 1 (dMake C_Rows s_Rows_init dx0 daNil))
    (sSeq (sSet 2 (dMeth C_Rows "take" s_Rows_take dx0 (dVar 1) (daCons (dVar 0) daNil)))
    (sRet (dMeth C_Rows "shape" s_Rows_shape dx0 (dVar 1) (daCons (dOp iIxF (dVar 0) (dC (.int 0))) (daCons (dVar 2) daNil))))))
abbrev N_one_of : List Str := ["telling", "rows", "top"]
def R_is_shape (s_is_telling s_one_of : DSp) : RS :=
  (sRet (dAndV (dCall s_is_telling dx0 (daCons (dVar 0) daNil)) (dOp (iEq) (dCall s_one_of dx0 (daCons (dVar 0) daNil)) (dVar 0))))
abbrev N_is_shape : List Str := ["thing"]
def R_want_shape (s_is_shape : DSp) : RS :=
  (sIf (dNotT (dTest (dCall s_is_shape dx0 (daCons (dVar 0) daNil)))) sNever sNext)
abbrev N_want_shape : List Str := ["thing"]
def R_paint (s_paint : DSp) : RS :=
  (sSeq (sAsg (dVar 2) (.tp [(.nm 4), (.nm 5), (.nm 6)]))
    (sSeq (sIf (dTest (dOp (iEqSF) (dVar 1) (dC (.int 1)))) (sFor (wRng2 (daCons (dVar 4) (daCons (dOp (iI0 fun i j => .int (i + j)) (dVar 4) (dVar 6)) daNil))) (.nm 7)
    (sSlSet (dOp iIxF (dVar 3) (dVar 7)) (dVar 5) (dOp (iI0 fun i j => .int (i + j)) (dVar 5) (dVar 6)) (dOp (iRep) (dLst (daCons (dC (.int 1)) daNil)) (dVar 6)))) sNext)
    (sIf (dTest (dOp (iI0 fun i j => .bl (decide (j < i))) (dVar 1) (dC (.int 1)))) (sSeq (sSet 8 (dOp (iI CDiv fun i j => .int (i / j)) (dVar 6) (dC (.int 2))))
    (sFor (wEnumF (daCons (dOp iIxF (dVar 0) (dOp (iI0 fun i j => .int (i - j)) (dVar 1) (dC (.int 2)))) daNil)) (.tp [(.nm 9), (.nm 10)])
    (sDrop (dCall s_paint dx0 (daCons (dVar 0) (daCons (dVar 10) (daCons (dTup (daCons (dOp (iI0 fun i j => .int (i + j)) (dVar 4) (dOp (iI CMul fun i j => .int (i * j)) (dVar 8) (dOp (iI CDiv fun i j => .int (i / j)) (dVar 9) (dC (.int 2))))) (daCons (dOp (iI0 fun i j => .int (i + j)) (dVar 5) (dOp (iI CMul fun i j => .int (i * j)) (dVar 8) (dOp (iI (fun _ j => 0 < j) fun i j => .int (i % j)) (dVar 9) (dC (.int 2))))) (daCons (dVar 8) daNil)))) (daCons (dVar 3) daNil)))))))) sNext)))
abbrev N_paint : List Str := ["rows", "number", "box", "looks", "row", "column", "side", "down", "half", "place", "quarter"]
def R_Windows_init (C_Windows : Addr) : RS :=
  (sSeq (sFldSet C_Windows "size" (dVar 0) (dVar 1))
    (sFldSet C_Windows "looks" (dVar 0) (dVar 2)))
abbrev N_Windows_init : List Str := ["self", "size", "looks"]
def R_cell_windows (C_Windows : Addr) (s_paint s_Windows_init : DSp) : RS :=
  (sSeq (sSet 1 (dOp (iI CPow fun i j => .int (i * 2 ^ j.toNat)) (dC (.int 1)) (dOp iIxF (dVar 0) (dC (.int 0)))))
    (sSeq (sSet 2 (dLcM (wRng1 (daCons (dVar 1) daNil)) (.nm 3) dYes (dOp (iRepM) (dLst (daCons (dC (.int 0)) daNil)) (dVar 1)) [3]))
    (sSeq (sDrop (dCall s_paint dx0 (daCons (dOp iIxF (dVar 0) (dC (.int 2))) (daCons (dOp iIxF (dVar 0) (dC (.int 1))) (daCons (dTup (daCons (dC (.int 0)) (daCons (dC (.int 0)) (daCons (dVar 1) daNil)))) (daCons (dVar 2) daNil))))))
    (sRet (dMake C_Windows s_Windows_init dx0 (daCons (dC (.int 0)) (daCons (dVar 2) daNil)))))))
abbrev N_cell_windows : List Str := ["shape", "side", "looks", "row"]
def R_one_look : RS :=
  (sSeq (sIf (dTest (dOp (iEqSF) (dBM "list" iCount (dVar 0) (daCons (dOp iIxF (dVar 0) (dC (.int 0))) daNil)) (dCB iLenF (daCons (dVar 0) daNil)))) (sRet (dOp iIxF (dVar 0) (dC (.int 0)))) sNext)
    (sRet (dC (.int 2))))
abbrev N_one_look : List Str := ["some"]
def R_Windows_far (C_Windows : Addr) : RS :=
  (sRet (dOp (iI0 fun i j => .int (i - j)) (dOp (iI CPow fun i j => .int (i * 2 ^ j.toNat)) (dC (.int 1)) (dFld C_Windows "size" (dVar 0))) (dC (.int 1))))
abbrev N_Windows_far : List Str := ["self"]
def R_Windows_look (C_Windows : Addr) (s_Windows_far : DSp) : RS :=
  (sSeq (sSet 3 (dMeth C_Windows "far" s_Windows_far dx0 (dVar 0) daNil))
    (sSeq (sSet 4 (dCB iLenF (daCons (dFld C_Windows "looks" (dVar 0)) daNil)))
    (sSeq (sIf (dOrT (dTest (dOp (iI0 fun i j => .bl (decide (i < j))) (dOp (iI0 fun i j => .int (i + j)) (dVar 1) (dVar 3)) (dC (.int 0)))) (dOrT (dTest (dOp (iI0 fun i j => .bl (decide (i < j))) (dOp (iI0 fun i j => .int (i + j)) (dVar 2) (dVar 3)) (dC (.int 0)))) (dOrT (dTest (dOp (iI0 fun i j => .bl (decide (j ≤ i))) (dOp (iI0 fun i j => .int (i + j)) (dVar 1) (dVar 3)) (dVar 4))) (dTest (dOp (iI0 fun i j => .bl (decide (j ≤ i))) (dOp (iI0 fun i j => .int (i + j)) (dVar 2) (dVar 3)) (dVar 4)))))) (sRet (dC (.int 0))) sNext)
    (sRet (dOp iIxF (dOp iIxF (dFld C_Windows "looks" (dVar 0)) (dOp (iI0 fun i j => .int (i + j)) (dVar 1) (dVar 3))) (dOp (iI0 fun i j => .int (i + j)) (dVar 2) (dVar 3)))))))
abbrev N_Windows_look : List Str := ["self", "row", "column", "far", "most"]
def R_greater (C_Windows : Addr) (s_one_look s_Windows_look s_Windows_init : DSp) : RS :=
  (sSeq (sSet 2 (dOp (iI CPow fun i j => .int (i * 2 ^ j.toNat)) (dC (.int 1)) (dFld C_Windows "size" (dVar 0))))
    (sSeq (sSet 3 (dOp (iI0 fun i j => .int (i - j)) (dOp (iI CMul fun i j => .int (i * j)) (dC (.int 2)) (dVar 2)) (dC (.int 1))))
    (sSeq (sSet 4 (dLstM daNil))
    (sSeq (sFor (wRng2 (daCons (dUn (iU fun i => .int (-i)) (dVar 3)) (daCons (dVar 1) daNil))) (.nm 5)
    (sSeq (sSet 6 (dLstM daNil))
    (sSeq (sFor (wRng2 (daCons (dUn (iU fun i => .int (-i)) (dVar 3)) (daCons (dVar 1) daNil))) (.nm 7)
    (sSeq (sSet 8 (dLst (daCons (dTup (daCons (dVar 5) (daCons (dVar 7) daNil))) (daCons (dTup (daCons (dVar 5) (daCons (dOp (iI0 fun i j => .int (i + j)) (dVar 7) (dVar 2)) daNil))) (daCons (dTup (daCons (dOp (iI0 fun i j => .int (i + j)) (dVar 5) (dVar 2)) (daCons (dVar 7) daNil))) (daCons (dTup (daCons (dOp (iI0 fun i j => .int (i + j)) (dVar 5) (dVar 2)) (daCons (dOp (iI0 fun i j => .int (i + j)) (dVar 7) (dVar 2)) daNil))) daNil))))))
    (sDrop (dBM "list" iAppend (dVar 6) (daCons (dCall s_one_look dx0 (daCons (dFin (dLcM (wSeqF (dVar 8)) (.tp [(.nm 9), (.nm 10)]) dYes (dMeth C_Windows "look" s_Windows_look dx0 (dVar 0) (daCons (dVar 9) (daCons (dVar 10) daNil))) [9, 10])) daNil)) daNil)))))
    (sDrop (dBM "list" iAppend (dVar 4) (daCons (dVar 6) daNil))))))
    (sRet (dMake C_Windows s_Windows_init dx0 (daCons (dOp (iI0 fun i j => .int (i + j)) (dFld C_Windows "size" (dVar 0)) (dC (.int 1))) (daCons (dVar 4) daNil))))))))
abbrev N_greater : List Str := ["windows", "side", "half", "far", "looks", "row", "line", "column", "corners", "down", "right"]
def R_mixed_by_remainder (C_Windows : Addr) (s_Windows_far : DSp) : RS :=
  (sSeq (sSet 1 (dOp (iI CPow fun i j => .int (i * 2 ^ j.toNat)) (dC (.int 1)) (dFld C_Windows "size" (dVar 0))))
    (sSeq (sSet 2 dDNewN)
    (sSeq (sFor (wEnumF (daCons (dFld C_Windows "looks" (dVar 0)) daNil)) (.tp [(.nm 3), (.nm 4)])
    (sFor (wEnumF (daCons (dVar 4) daNil)) (.tp [(.nm 5), (.nm 6)])
    (sIf (dTest (dOp (iEqSF) (dVar 6) (dC (.int 2)))) (sSeq (sSet 7 (dTup (daCons (dOp (iI (fun _ j => 0 < j) fun i j => .int (i % j)) (dOp (iI0 fun i j => .int (i - j)) (dMeth C_Windows "far" s_Windows_far dx0 (dVar 0) daNil) (dVar 3)) (dVar 1)) (daCons (dOp (iI (fun _ j => 0 < j) fun i j => .int (i % j)) (dOp (iI0 fun i j => .int (i - j)) (dMeth C_Windows "far" s_Windows_far dx0 (dVar 0) daNil) (dVar 5)) (dVar 1)) daNil))))
    (sDPutF (dVar 2) (dVar 7) (dOp (iI0 fun i j => .int (i + j)) (dDGet2F (dVar 2) (dVar 7) (dC (.int 0))) (dC (.int 1))))) sNext)))
    (sRet (dVar 2)))))
abbrev N_mixed_by_remainder : List Str := ["windows", "side", "found", "row", "line", "column", "look", "label"]
def R_all_mixed (s_cell_windows s_greater s_mixed_by_remainder : DSp) : RS :=
  (sSeq (sSet 1 (dLstM daNil))
    (sSeq (sSet 2 (dCall s_cell_windows dx0 (daCons (dVar 0) daNil)))
    (sSeq (sFor (wRng1 (daCons (dOp iIxF (dVar 0) (dC (.int 0))) daNil)) (.nm 3)
    (sSeq (sSet 2 (dCall s_greater dx0 (daCons (dVar 2) (daCons (dOp (iI CPow fun i j => .int (i * 2 ^ j.toNat)) (dC (.int 1)) (dOp iIxF (dVar 0) (dC (.int 0)))) daNil))))
    (sDrop (dBM "list" iAppend (dVar 1) (daCons (dCall s_mixed_by_remainder dx0 (daCons (dVar 2) daNil)) daNil)))))
    (sRet (dVar 1)))))
abbrev N_all_mixed : List Str := ["shape", "found", "windows", "k"]
def R_Counts_init (C_Counts : Addr) : RS :=
  (sSeq (sFldSet C_Counts "rows" (dVar 0) (dOp iIxF (dVar 1) (dC (.int 2))))
    (sSeq (sFldSet C_Counts "leaves" (dVar 0) (dDisp2 0 1 1 1))
    (sSeq (sFldSet C_Counts "sums" (dVar 0) dDNewN)
    (sSeq (sFldSet C_Counts "ends" (dVar 0) dDNewN)
    (sFldSet C_Counts "parted" (dVar 0) dDNewN)))))
abbrev N_Counts_init : List Str := ["self", "shape"]
def R_Counts_quarters (C_Counts : Addr) : RS :=
  (sRet (dOp iIxF (dFld C_Counts "rows" (dVar 0)) (dOp (iI0 fun i j => .int (i - j)) (dVar 1) (dC (.int 2)))))
abbrev N_Counts_quarters : List Str := ["self", "number"]
def R_Counts_ends_of_quarters (C_Counts : Addr) (s_Counts_quarters s_Counts_ends_in : DSp) : RS :=
  (sSeq (sSet 3 (dOp (iI CPow fun i j => .int (i * 2 ^ j.toNat)) (dC (.int 1)) (dOp (iI0 fun i j => .int (i - j)) (dVar 2) (dC (.int 1)))))
    (sSeq (sSet 4 (dLstM daNil))
    (sSeq (sFor (wEnumF (daCons (dMeth C_Counts "quarters" s_Counts_quarters dx0 (dVar 0) (daCons (dVar 1) daNil)) daNil)) (.tp [(.nm 5), (.nm 6)])
    (sSeq (sSet 7 (dMeth C_Counts "ends_in" s_Counts_ends_in dx0 (dVar 0) (daCons (dVar 6) (daCons (dOp (iI0 fun i j => .int (i - j)) (dVar 2) (dC (.int 1))) daNil))))
    (sIf (dTest (dOp (iNotN) (dVar 7) (dC .non))) (sSeq (sSet 8 (dOp (iI CMul fun i j => .int (i * j)) (dVar 3) (dOp (iI CDiv fun i j => .int (i / j)) (dVar 5) (dC (.int 2)))))
    (sSeq (sSet 9 (dOp (iI CMul fun i j => .int (i * j)) (dVar 3) (dOp (iI (fun _ j => 0 < j) fun i j => .int (i % j)) (dVar 5) (dC (.int 2)))))
    (sDrop (dBM "list" iAppend (dVar 4) (daCons (dTup (daCons (dOp (iI0 fun i j => .int (i + j)) (dOp iIxF (dVar 7) (dC (.int 0))) (dVar 8)) (daCons (dOp (iI0 fun i j => .int (i + j)) (dOp iIxF (dVar 7) (dC (.int 1))) (dVar 9)) (daCons (dOp (iI0 fun i j => .int (i + j)) (dOp iIxF (dVar 7) (dC (.int 2))) (dVar 8)) (daCons (dOp (iI0 fun i j => .int (i + j)) (dOp iIxF (dVar 7) (dC (.int 3))) (dVar 9)) daNil))))) daNil))))) sNext)))
    (sSeq (sSet 10 (dTup (daCons (dCB iMinL (daCons (dFin (dLcM (wSeqF (dVar 4)) (.nm 11) dYes (dOp iIxF (dVar 11) (dC (.int 0))) [11])) daNil)) (daCons (dCB iMinL (daCons (dFin (dLcM (wSeqF (dVar 4)) (.nm 11) dYes (dOp iIxF (dVar 11) (dC (.int 1))) [11])) daNil)) daNil))))
    (sRet (dOp (iCatT) (dVar 10) (dTup (daCons (dCB iMaxL (daCons (dFin (dLcM (wSeqF (dVar 4)) (.nm 11) dYes (dOp iIxF (dVar 11) (dC (.int 2))) [11])) daNil)) (daCons (dCB iMaxL (daCons (dFin (dLcM (wSeqF (dVar 4)) (.nm 11) dYes (dOp iIxF (dVar 11) (dC (.int 3))) [11])) daNil)) daNil)))))))))
abbrev N_Counts_ends_of_quarters : List Str := ["self", "number", "size", "half", "some", "place", "quarter", "ends", "down", "right", "first", "one"]
def R_Counts_ends_in (C_Counts : Addr) (s_Counts_ends_of_quarters : DSp) : RS :=
  (sSeq (sSet 3 (dOp (iI CPow fun i j => .int (i * 2 ^ j.toNat)) (dC (.int 1)) (dVar 2)))
    (sSeq (sIf (dTest (dOp (iEqSF) (dVar 1) (dC (.int 0)))) (sRet (dC .non)) sNext)
    (sSeq (sIf (dTest (dOp (iEqSF) (dVar 1) (dC (.int 1)))) (sRet (dTup (daCons (dC (.int 0)) (daCons (dC (.int 0)) (daCons (dOp (iI0 fun i j => .int (i - j)) (dVar 3) (dC (.int 1))) (daCons (dOp (iI0 fun i j => .int (i - j)) (dVar 3) (dC (.int 1))) daNil)))))) sNext)
    (sSeq (sIf (dTest (dOp (iDnotin) (dTup (daCons (dVar 1) (daCons (dVar 2) daNil))) (dFld C_Counts "ends" (dVar 0)))) (sDPutF (dFld C_Counts "ends" (dVar 0)) (dTup (daCons (dVar 1) (daCons (dVar 2) daNil))) (dMeth C_Counts "ends_of_quarters" s_Counts_ends_of_quarters dx0 (dVar 0) (daCons (dVar 1) (daCons (dVar 2) daNil)))) sNext)
    (sRet (dDGet (dFld C_Counts "ends" (dVar 0)) (dTup (daCons (dVar 1) (daCons (dVar 2) daNil)))))))))
abbrev N_Counts_ends_in : List Str := ["self", "number", "size", "side"]
def R_bounds (C_Counts : Addr) (s_want_shape s_Counts_init s_Counts_ends_in : DSp) : RS :=
  (sSeq (sDrop (dCall s_want_shape dx0 (daCons (dVar 0) daNil)))
    (sRet (dMeth C_Counts "ends_in" s_Counts_ends_in dx0 (dMake C_Counts s_Counts_init dx0 (daCons (dVar 0) daNil)) (daCons (dOp iIxF (dVar 0) (dC (.int 1))) (daCons (dOp iIxF (dVar 0) (dC (.int 0))) daNil)))))
abbrev N_bounds : List Str := ["shape"]
def R_moves_of (s_bounds : DSp) : RS :=
  (sSeq (sSet 1 (dCall s_bounds dx0 (daCons (dVar 0) daNil)))
    (sSeq (sIf (dTest (dOp (iIsN) (dVar 1) (dC .non))) (sRet (dLst (daCons (dTup (daCons (dC (.int 0)) (daCons (dC (.int 0)) daNil))) daNil))) sNext)
    (sSeq (sSet 2 (dOp (iI CPow fun i j => .int (i * 2 ^ j.toNat)) (dC (.int 1)) (dOp iIxF (dVar 0) (dC (.int 0)))))
    (sSeq (sSet 3 (dLstM daNil))
    (sSeq (sFor (wRng2 (daCons (dUn (iU fun i => .int (-i)) (dOp iIxF (dVar 1) (dC (.int 0)))) (daCons (dOp (iI0 fun i j => .int (i - j)) (dVar 2) (dOp iIxF (dVar 1) (dC (.int 2)))) daNil))) (.nm 4)
    (sDrop (dBM "list" iExtend (dVar 3) (daCons (dFin (dLcM (wRng2 (daCons (dUn (iU fun i => .int (-i)) (dOp iIxF (dVar 1) (dC (.int 1)))) (daCons (dOp (iI0 fun i j => .int (i - j)) (dVar 2) (dOp iIxF (dVar 1) (dC (.int 3)))) daNil))) (.nm 5) dYes (dTup (daCons (dVar 4) (daCons (dVar 5) daNil))) [5])) daNil))))
    (sRet (dVar 3)))))))
abbrev N_moves_of : List Str := ["shape", "ends", "side", "found", "down", "right"]
def R_leaves_behind : RS :=
  (sSeq (sSet 3 (dC (.int 0)))
    (sSeq (sFor (wEnumF (daCons (dVar 0) daNil)) (.tp [(.nm 4), (.nm 5)])
    (sSeq (sSet 6 (dOp (iI CPow fun i j => .int (i * 2 ^ j.toNat)) (dC (.int 2)) (dVar 4)))
    (sAug 3 (dDGet2F (dVar 5) (dTup (daCons (dOp (iI (fun _ j => 0 < j) fun i j => .int (i % j)) (dVar 1) (dVar 6)) (daCons (dOp (iI (fun _ j => 0 < j) fun i j => .int (i % j)) (dVar 2) (dVar 6)) daNil))) (dC (.int 0))) (fun i j => i + j))))
    (sRet (dOp (iI0 fun i j => .int (i + j)) (dC (.int 1)) (dOp (iI CMul fun i j => .int (i * j)) (dC (.int 3)) (dVar 3))))))
abbrev N_leaves_behind : List Str := ["mixed", "down", "right", "parted", "k", "some", "side"]
def R_fewest (s_want_shape s_all_mixed s_moves_of s_leaves_behind : DSp) : RS :=
  (sSeq (sDrop (dCall s_want_shape dx0 (daCons (dVar 0) daNil)))
    (sSeq (sIf (dTest (dOp (iI0 fun i j => .bl (decide (j < i))) (dOp iIxF (dVar 0) (dC (.int 0))) (dC (.int 7)))) sNever sNext)
    (sSeq (sIf (dTest (dOp (iEqSF) (dOp iIxF (dVar 0) (dC (.int 1))) (dC (.int 0)))) (sRet (dTup (daCons (dC (.int 1)) (daCons (dC (.int 0)) (daCons (dC (.int 0)) daNil))))) sNext)
    (sSeq (sSet 1 (dCall s_all_mixed dx0 (daCons (dVar 0) daNil)))
    (sRet (dCB iMinT (daCons (dFin (dLcM (wSeqF (dCall s_moves_of dx0 (daCons (dVar 0) daNil))) (.tp [(.nm 2), (.nm 3)]) dYes (dTup (daCons (dCall s_leaves_behind dx0 (daCons (dVar 1) (daCons (dVar 2) (daCons (dVar 3) daNil)))) (daCons (dVar 2) (daCons (dVar 3) daNil)))) [2, 3])) daNil)))))))
abbrev N_fewest : List Str := ["shape", "mixed", "down", "right"]
def R_law_number (s_law_number : DSp) : RS :=
  (sSeq (sAsg (dVar 3) (.tp [(.nm 4), (.nm 5), (.nm 6)]))
    (sSeq (sIf (dTest (dOp (iEqSF) (dVar 6) (dC (.int 1)))) (sRet (dCB iIntF (daCons (dOp (iDin) (dTup (daCons (dVar 4) (daCons (dVar 5) daNil))) (dVar 0)) daNil))) sNext)
    (sSeq (sSet 7 (dOp (iI CDiv fun i j => .int (i / j)) (dVar 6) (dC (.int 2))))
    (sSeq (sSet 8 (dLstM daNil))
    (sSeq (sFor (wRng1 (daCons (dC (.int 4)) daNil)) (.nm 9)
    (sDrop (dBM "list" iAppend (dVar 8) (daCons (dCall s_law_number dx0 (daCons (dVar 0) (daCons (dVar 1) (daCons (dVar 2) (daCons (dTup (daCons (dOp (iI0 fun i j => .int (i + j)) (dVar 4) (dOp (iI CMul fun i j => .int (i * j)) (dVar 7) (dOp (iI CDiv fun i j => .int (i / j)) (dVar 9) (dC (.int 2))))) (daCons (dOp (iI0 fun i j => .int (i + j)) (dVar 5) (dOp (iI CMul fun i j => .int (i * j)) (dVar 7) (dOp (iI (fun _ j => 0 < j) fun i j => .int (i % j)) (dVar 9) (dC (.int 2))))) (daCons (dVar 7) daNil)))) daNil))))) daNil))))
    (sSeq (sSet 10 (dCB iTupleF (daCons (dVar 8) daNil)))
    (sSeq (sIf (dTest (dOp (iSin) (dVar 10) (dTup (daCons (dTup (daCons (dC (.int 0)) (daCons (dC (.int 0)) (daCons (dC (.int 0)) (daCons (dC (.int 0)) daNil))))) (daCons (dTup (daCons (dC (.int 1)) (daCons (dC (.int 1)) (daCons (dC (.int 1)) (daCons (dC (.int 1)) daNil))))) daNil))))) (sRet (dOp iIxF (dVar 10) (dC (.int 0)))) sNext)
    (sSeq (sIf (dTest (dOp (iDnotin) (dVar 10) (dVar 2))) (sSeq (sDrop (dBM "list" iAppend (dVar 1) (daCons (dVar 10) daNil)))
    (sDPutF (dVar 2) (dVar 10) (dOp (iI0 fun i j => .int (i + j)) (dCB iLenF (daCons (dVar 1) daNil)) (dC (.int 1))))) sNext)
    (sRet (dDGet (dVar 2) (dVar 10)))))))))))
abbrev N_law_number : List Str := ["_law_cells_here", "_law_rows", "_law_known", "_law_box", "_law_row_here", "_law_column", "_law_side", "_law_half", "_law_found", "_law_place", "_law_quarters"]
def R_law_shape (s_law_number : DSp) : RS :=
  (sSeq (sSet 2 dDNewN)
    (sSeq (sFor (wSeqF (dVar 1)) (.nm 3)
    (sDPutF (dVar 2) (dVar 3) (dC (.bl true))))
    (sSeq (sSet 4 (dLstM daNil))
    (sSeq (sSet 5 (dCall s_law_number dx0 (daCons (dVar 2) (daCons (dVar 4) (daCons dDNewN (daCons (dTup (daCons (dC (.int 0)) (daCons (dC (.int 0)) (daCons (dOp (iI CPow fun i j => .int (i * 2 ^ j.toNat)) (dC (.int 1)) (dVar 0)) daNil)))) daNil))))))
    (sRet (dTup (daCons (dVar 0) (daCons (dVar 5) (daCons (dCB iTupleF (daCons (dVar 4) daNil)) daNil)))))))))
abbrev N_law_shape : List Str := ["_law_n", "_law_cells_here", "_law_lots", "_law_cell", "_law_rows", "_law_top"]
def R_law_right (s_law_moves s_law_parted s_law_moved s_fewest s_law_shape : DSp) : RS :=
  (sSeq (sSet 2 (dLstM daNil))
    (sSeq (sFor (wSeqF (dCall s_law_moves dx0 (daCons (dVar 1) (daCons (dOp (iI CPow fun i j => .int (i * 2 ^ j.toNat)) (dC (.int 1)) (dVar 0)) daNil)))) (.nm 3)
    (sDrop (dBM "list" iAppend (dVar 2) (daCons (dOp (iCatT) (dTup (daCons (dOp (iI0 fun i j => .int (i + j)) (dC (.int 1)) (dOp (iI CMul fun i j => .int (i * j)) (dC (.int 3)) (dCB iSum (daCons (dCall s_law_parted dx0 (daCons (dCall s_law_moved dx0 (daCons (dVar 1) (daCons (dVar 3) daNil))) (daCons (dVar 0) daNil))) daNil)))) daNil)) (dVar 3)) daNil))))
    (sSeq (sSet 4 (dCall s_fewest dx0 (daCons (dCall s_law_shape dx0 (daCons (dVar 0) (daCons (dVar 1) daNil))) daNil)))
    (sRet (dAndV (dCB iIsi (daCons (dVar 4) (daCons (dC (.ty "tuple")) daNil))) (dOp (iEq) (dVar 4) (dCB iMinT (daCons (dVar 2) daNil))))))))
abbrev N_law_right : List Str := ["_law_n", "_law_cells_here", "_law_due", "_law_move", "_law_told"]
def R_law_boxed : RS :=
  (sSeq (sSet 1 dDNewN)
    (sSeq (sFor (wSeqF (dVar 0)) (.tp [(.nm 2), (.nm 3), (.nm 4), (.nm 5)])
    (sFor (wRng2 (daCons (dVar 2) (daCons (dOp (iI0 fun i j => .int (i + j)) (dVar 2) (dVar 4)) daNil))) (.nm 6)
    (sFor (wRng2 (daCons (dVar 3) (daCons (dOp (iI0 fun i j => .int (i + j)) (dVar 3) (dVar 5)) daNil))) (.nm 7)
    (sDPutF (dVar 1) (dTup (daCons (dVar 6) (daCons (dVar 7) daNil))) (dC (.bl true))))))
    (sRet (dVar 1))))
abbrev N_law_boxed : List Str := ["_law_boxes_here", "_law_found", "_law_row_here", "_law_column", "_law_high", "_law_wide", "_law_down", "_law_right_here"]
def R_law_boxes (s_law_row : DSp) : RS :=
  (sSeq (sSet 4 (dCall s_law_row dx0 (daCons (dVar 0) (daCons (dVar 1) (daCons (dOp (iI CMul fun i j => .int (i * j)) (dC (.int 4)) (dVar 3)) (daCons (dVar 2) daNil))))))
    (sSeq (sSet 5 (dLstM daNil))
    (sSeq (sFor (wRng3 (daCons (dC (.int 0)) (daCons (dOp (iI CMul fun i j => .int (i * j)) (dC (.int 4)) (dVar 3)) (daCons (dC (.int 4)) daNil)))) (.nm 6)
    (sSeq (sAsgL (dSlice (dVar 4) (oSome (dVar 6)) (oSome (dOp (iI0 fun i j => .int (i + j)) (dVar 6) (dC (.int 4))))) [(.nm 7), (.nm 8), (.nm 9), (.nm 10)])
    (sDrop (dBM "list" iAppend (dVar 5) (daCons (dTup (daCons (dVar 7) (daCons (dVar 8) (daCons (dOp (iI0 fun i j => .int (i + j)) (dC (.int 1)) (dOp (iI (fun _ j => 0 < j) fun i j => .int (i % j)) (dVar 9) (dOp (iI0 fun i j => .int (i - j)) (dVar 2) (dVar 7)))) (daCons (dOp (iI0 fun i j => .int (i + j)) (dC (.int 1)) (dOp (iI (fun _ j => 0 < j) fun i j => .int (i % j)) (dVar 10) (dOp (iI0 fun i j => .int (i - j)) (dVar 2) (dVar 8)))) daNil))))) daNil)))))
    (sRet (dVar 5)))))
abbrev N_law_boxes : List Str := ["_law_script", "_law_k", "_law_side", "_law_many", "_law_digits", "_law_found", "_law_at_here", "_law_row_here", "_law_column", "_law_high", "_law_wide"]
def R_law_squares (s_law_row : DSp) : RS :=
  (sSeq (sSet 4 (dCall s_law_row dx0 (daCons (dVar 0) (daCons (dVar 1) (daCons (dOp (iI CMul fun i j => .int (i * j)) (dC (.int 3)) (dVar 3)) (daCons (dOp (iI CPow fun i j => .int (i * 2 ^ j.toNat)) (dC (.int 1)) (dVar 2)) daNil))))))
    (sSeq (sSet 5 (dLstM daNil))
    (sSeq (sFor (wRng3 (daCons (dC (.int 0)) (daCons (dOp (iI CMul fun i j => .int (i * j)) (dC (.int 3)) (dVar 3)) (daCons (dC (.int 3)) daNil)))) (.nm 6)
    (sSeq (sSet 7 (dOp (iI CPow fun i j => .int (i * 2 ^ j.toNat)) (dC (.int 1)) (dOp (iI (fun _ j => 0 < j) fun i j => .int (i % j)) (dOp iIxF (dVar 4) (dVar 6)) (dOp (iI0 fun i j => .int (i + j)) (dVar 2) (dC (.int 1))))))
    (sDrop (dBM "list" iAppend (dVar 5) (daCons (dTup (daCons (dOp (iI CMul fun i j => .int (i * j)) (dOp (iI CDiv fun i j => .int (i / j)) (dOp iIxF (dVar 4) (dOp (iI0 fun i j => .int (i + j)) (dVar 6) (dC (.int 1)))) (dVar 7)) (dVar 7)) (daCons (dOp (iI CMul fun i j => .int (i * j)) (dOp (iI CDiv fun i j => .int (i / j)) (dOp iIxF (dVar 4) (dOp (iI0 fun i j => .int (i + j)) (dVar 6) (dC (.int 2)))) (dVar 7)) (dVar 7)) (daCons (dVar 7) (daCons (dVar 7) daNil))))) daNil)))))
    (sRet (dVar 5)))))
abbrev N_law_squares : List Str := ["_law_script", "_law_k", "_law_n", "_law_many", "_law_digits", "_law_found", "_law_at_here", "_law_step"]
def R_law_cells (s_law_row s_law_boxed s_law_boxes s_law_squares : DSp) : RS :=
  (sSeq (sSet 3 (dOp (iI CPow fun i j => .int (i * 2 ^ j.toNat)) (dC (.int 1)) (dVar 2)))
    (sSeq (sAsgL (dCall s_law_row dx0 (daCons (dVar 0) (daCons (dVar 1) (daCons (dC (.int 2)) (daCons (dC (.int 8)) daNil))))) [(.nm 4), (.nm 5)])
    (sSeq (sIf (dTest (dOp (iI0 fun i j => .bl (decide (i < j))) (dVar 4) (dC (.int 3)))) (sSeq (sSet 6 (dCall s_law_row dx0 (daCons (dVar 0) (daCons (dOp (iI0 fun i j => .int (i + j)) (dVar 1) (dC (.int 1))) (daCons (dOp (iI CMul fun i j => .int (i * j)) (dVar 3) (dVar 3)) (daCons (dC (.int 2)) daNil))))))
    (sRet (dFin (dLcM (wRng1 (daCons (dOp (iI CMul fun i j => .int (i * j)) (dVar 3) (dVar 3)) daNil)) (.nm 7) (dTest (dOp (iEqSF) (dOp iIxF (dVar 6) (dVar 7)) (dC (.int 1)))) (dTup (daCons (dOp (iI CDiv fun i j => .int (i / j)) (dVar 7) (dVar 3)) (daCons (dOp (iI (fun _ j => 0 < j) fun i j => .int (i % j)) (dVar 7) (dVar 3)) daNil))) [7])))) sNext)
    (sSeq (sIf (dTest (dOp (iI0 fun i j => .bl (decide (i < j))) (dVar 4) (dC (.int 6)))) (sRet (dCB iSortDk (daCons (dCall s_law_boxed dx0 (daCons (dCall s_law_boxes dx0 (daCons (dVar 0) (daCons (dOp (iI0 fun i j => .int (i + j)) (dVar 1) (dC (.int 1))) (daCons (dVar 3) (daCons (dVar 5) daNil))))) daNil)) daNil))) sNext)
    (sRet (dCB iSortDk (daCons (dCall s_law_boxed dx0 (daCons (dCall s_law_squares dx0 (daCons (dVar 0) (daCons (dOp (iI0 fun i j => .int (i + j)) (dVar 1) (dC (.int 1))) (daCons (dVar 2) (daCons (dVar 5) daNil))))) daNil)) daNil)))))))
abbrev N_law_cells : List Str := ["_law_script", "_law_k", "_law_n", "_law_side", "_law_way", "_law_many", "_law_digits", "_law_at_here"]
def R_law (s_law_row s_law_right s_law_cells : DSp) : RS :=
  (sSeq (sFor (wSeqF (dTup (daCons (dC (.int 0)) (daCons (dC (.int 2)) daNil)))) (.nm 1)
    (sSeq (sSet 2 (dOp iIxF (dCall s_law_row dx0 (daCons (dVar 0) (daCons (dOp (iI0 fun i j => .int (i + j)) (dVar 1) (dC (.int 4))) (daCons (dC (.int 1)) (daCons (dC (.int 5)) daNil))))) (dC (.int 0))))
    (sIf (dNotT (dTest (dCall s_law_right dx0 (daCons (dVar 2) (daCons (dCall s_law_cells dx0 (daCons (dVar 0) (daCons (dVar 1) (daCons (dVar 2) daNil)))) daNil))))) (sRet (dC (.bl false))) sNext)))
    (sRet (dC (.bl true))))
abbrev N_law : List Str := ["_law_script", "_law_k", "_law_n"]
end QF
namespace QF
open PySem L2
local macro_rules | `(tactic| walk_at "QS") => `(tactic| try simp only [sSeq, sSet, sDrop, sRet, sRetN, sIf, sNext, sFor, sAsg, sPar, sAug, sFldSet, sIxSet, sDPut, dputG, sSlSet, sAsgL, iRepM, dTest, dOp, dVar, dC, daNil, daCons, dTup, dLst, dLstM, dCB, dBM, dBM0, dFld, dMeth, dMake, dCall, dChain, dAndV, dOrV, dNotV, dAndT, dOrT, dNotT, dIf, dUn, dFin, dLcM, dDGet, dDGet2, dDPop1, isDictG, dRev, dSlice, dSliceM, dSliceS, dSliceT, oNone, oSome, dYes, dDNewK, dDNewN, dDisp2,
  wSeq, wRng1, wRng2, wRng3, wEnumS, wZip, wKeys, iU, iI, iI0, iEqS, iNeS, iEq, iNe, iLenF, iIxF, iIntF, iEqSF, iNeSF, iTupleF, iListF, iListMF, sDPutF, dDPop1F, dDGet2F, wSeqF, wEnumF, okS, iSin, iSnotin, iDin, iDnotin, iTin, iIsN, iNotN, iAbs, iMax2, iMin2, iInt, iSum, iMaxL, iMinL, iAll, iAny, iTuple, iList, iListM, iAppend, iExtend, iPop, iIndexS, iCount, iCat, iCatT, iRep, iAddStr, iIsi, iSortI, iSortT, iSortDk, iMinT, startD, Tg.put, Tg.puts, tyOkD,
  List.map_cons, List.map_nil, List.length_cons, List.length_nil, List.replicate_zero, List.replicate_succ, List.cons_append, List.nil_append, List.append_nil, Nat.reduceAdd, Nat.reduceSub, List.getElem?_cons_zero, List.getElem?_cons_succ, List.set_cons_zero, List.set_cons_succ, wipeD,
  Option.some.injEq, D.int.injEq, D.str.injEq, D.bl.injEq, D.tup.injEq, D.lst.injEq, D.ref.injEq, D.ty.injEq, D.scr.injEq, DO.lst.injEq, DO.dk.injEq, DO.dn.injEq, DO.ins.injEq, DO.lk.injEq, List.cons.injEq, and_assoc, and_true, true_and, exists_eq_left', exists_eq_left, exists_eq_right, exists_eq_right', exists_and_left, exists_and_right, exists_const, false_and, and_false, exists_false, or_false, false_or, true_or, or_true, reduceCtorEq, String.reduceEq, if_true, if_false, ite_self, Bool.false_eq_true, Bool.not_true, Bool.not_false, decide_true, decide_false, up_same, forall_const,
  vS_scr', vS_lst', vS_ref', vS_tup, vS_int, vS_bl, vS_str, vS_non, vL_lst', vL_ref', vL_tup, vL_int, vL_bl, vL_str, vL_non, vLT_lst, vLT_tup, vLT_ref, vD_tup, vD_lst, vD_int, vD_str, vD_non, isNonD_non, isNonD_tup, isNonD_int,
  lenOf_lst, lenOf_tup, lenOf_scr, lenOf_ref, lenO_lst, lenO_dk, lenO_dn, ixOf_lst, ixOf_tup, ixOf_scr, ixOf_ref, ixO_lst, tupOf_lst, tupOf_tup, tupOf_scr, tupOf_ref, seqOf_lst, seqOf_tup, seqOf_scr, seqOf_str, seqOf_ref, seqO_lst, intOf_int, intOf_bl, eqOf_int, eqOf_bl, eqOf_str, isDictF_ref, isDictO_dk, isDictO_dn, isDictO_lk, at0, at1, at2, at3, lit2, lit3, lit4])
local macro_rules | `(tactic| walk_at "QT") => `(tactic| try simp only [sSeq, sSet, sDrop, sRet, sRetN, sIf, sNext, sFor, sAsg, sPar, sAug, sFldSet, sIxSet, sDPut, dputG, sSlSet, sAsgL, iRepM, dTest, dOp, dVar, dC, daNil, daCons, dTup, dLst, dLstM, dCB, dBM, dBM0, dFld, dMeth, dMake, dCall, dChain, dAndV, dOrV, dNotV, dAndT, dOrT, dNotT, dIf, dUn, dFin, dLcM, dDGet, dDGet2, dDPop1, isDictG, dRev, dSlice, dSliceM, dSliceS, dSliceT, oNone, oSome, dYes, dDNewK, dDNewN, dDisp2,
  wSeq, wRng1, wRng2, wRng3, wEnumS, wZip, wKeys, iU, iI, iI0, iEqS, iNeS, iEq, iNe, iLenF, iIxF, iIntF, iEqSF, iNeSF, iTupleF, iListF, iListMF, sDPutF, dDPop1F, dDGet2F, wSeqF, wEnumF, okS, iSin, iSnotin, iDin, iDnotin, iTin, iIsN, iNotN, iAbs, iMax2, iMin2, iInt, iSum, iMaxL, iMinL, iAll, iAny, iTuple, iList, iListM, iAppend, iExtend, iPop, iIndexS, iCount, iCat, iCatT, iRep, iAddStr, iIsi, iSortI, iSortT, iSortDk, iMinT, startD, Tg.put, Tg.puts, tyOkD,
  List.map_cons, List.map_nil, List.length_cons, List.length_nil, List.replicate_zero, List.replicate_succ, List.cons_append, List.nil_append, List.append_nil, Nat.reduceAdd, Nat.reduceSub, List.getElem?_cons_zero, List.getElem?_cons_succ, List.set_cons_zero, List.set_cons_succ, wipeD,
  Option.some.injEq, D.int.injEq, D.str.injEq, D.bl.injEq, D.tup.injEq, D.lst.injEq, D.ref.injEq, D.ty.injEq, D.scr.injEq, DO.lst.injEq, DO.dk.injEq, DO.dn.injEq, DO.ins.injEq, DO.lk.injEq, List.cons.injEq, and_assoc, and_true, true_and, exists_eq_left', exists_eq_left, exists_eq_right, exists_eq_right', exists_and_left, exists_and_right, exists_const, false_and, and_false, exists_false, or_false, false_or, true_or, or_true, reduceCtorEq, String.reduceEq, if_true, if_false, ite_self, Bool.false_eq_true, Bool.not_true, Bool.not_false, decide_true, decide_false, up_same, up_up, del_same, forall_const,
  vS_scr', vS_lst', vS_ref', vS_tup, vS_int, vS_bl, vS_str, vS_non, vL_lst', vL_ref', vL_tup, vL_int, vL_bl, vL_str, vL_non, vLT_lst, vLT_tup, vLT_ref, vD_tup, vD_lst, vD_int, vD_str, vD_non, isNonD_non, isNonD_tup, isNonD_int,
  lenOf_lst, lenOf_tup, lenOf_scr, lenOf_ref, lenO_lst, lenO_dk, lenO_dn, ixOf_lst, ixOf_tup, ixOf_scr, ixOf_ref, ixO_lst, tupOf_lst, tupOf_tup, tupOf_scr, tupOf_ref, seqOf_lst, seqOf_tup, seqOf_scr, seqOf_str, seqOf_ref, seqO_lst, intOf_int, intOf_bl, eqOf_int, eqOf_bl, eqOf_str, isDictF_ref, isDictO_dk, isDictO_dn, isDictO_lk, at0, at1, at2, at3, lit2, lit3, lit4])
def SameBut (S : List Addr) (G G' : DG) : Prop := ∀ b, b ∉ S → G' b = G b
theorem SameBut.refl (S : List Addr) (G : DG) : SameBut S G G := fun _ _ => rfl
theorem SameBut.trans {S : List Addr} {G G1 G2 : DG} (a : SameBut S G G1) (b : SameBut S G1 G2) : SameBut S G G2 := fun x h => (b x h).trans (a x h)
theorem SameBut.up {S : List Addr} {G : DG} {a : Addr} {o : DO} (h : a ∈ S) : SameBut S G (up G a o) := fun b hb => up_ne fun e => hb (e ▸ h)
def rowD (q : List Nat) : D := tupI (q.map fun (y : Nat) => (y : Int))
def numsD (R : Rws) : List (D × D) := R.zipIdx.map fun p => (rowD p.1, .int ((p.2 + 2 : Nat) : Int))
theorem rowD_norm {q r : List Nat} : (rowD q).norm = (rowD r).norm ↔ q = r := by
  unfold rowD
  rw [norm_tupI]
  constructor
  · intro h
    have := congrArg (List.map Int.toNat) h
    simpa [List.map_map, Function.comp_def] using this
  · intro h; rw [h]
theorem deqv_rowD (q r : List Nat) : deqv (rowD q) (rowD r) = decide (q = r) := by
  unfold rowD
  rw [deqv_tupI]
  congr 1
  rw [← norm_tupI]
  exact propext rowD_norm
theorem numsD_get {R : Rws} {q : List Nat} : dgetL (numsD R) (rowD q) = if q ∈ R then some (.int ((R.idxOf q + 2 : Nat) : Int)) else none := by
  have key : ∀ (R : Rws) (k : Nat), (((R.zipIdx k).map fun p => ((rowD p.1 : D), D.int ((p.2 + 2 : Nat) : Int))).find? fun p => decide (p.1.norm = (rowD q).norm)).map (·.2) = if q ∈ R then some (.int ((R.idxOf q + k + 2 : Nat) : Int)) else none := by
    intro R
    induction R with
    | nil => intro k; rfl
    | cons r R ih =>
      intro k
      rw [List.zipIdx_cons, List.map_cons, List.find?_cons]
      by_cases h : r = q
      · subst h
        simp
      · have h1 : decide ((rowD r).norm = (rowD q).norm) = false := decide_eq_false fun e => h (rowD_norm.mp e)
        simp only [h1]
        rw [ih (k + 1)]
        have h2 : ¬ q = r := fun e => h e.symm
        simp only [List.mem_cons, h2, false_or, List.idxOf_cons]
        have h3 : (r == q) = false := beq_eq_false_iff_ne.mpr h
        simp only [h3, cond_false]
        split
        · congr 3; omega
        · rfl
  have := key R 0
  simpa [dgetL, numsD] using this
theorem numsD_put {R : Rws} {q : List Nat} (h : q ∉ R) : dputL (numsD R) (rowD q) (.int ((R.length + 2 : Nat) : Int)) = numsD (R ++ [q]) := by
  unfold dputL
  rw [numsD_get, if_neg h]
  simp [numsD, List.zipIdx_append]
theorem numsD_length (R : Rws) : (numsD R).length = R.length := by simp [numsD]
/-- the object of rows at p: its list at l, its numbers at m -/
structure RowsAt (C p l m : Addr) (R : Rws) (G : DG) : Prop where
  ins : G p = some (.ins C [("rows", .ref l), ("numbers", .ref m)])
  lst : G l = some (.lst (R.map rowD))
  dct : G m = some (.dn (numsD R))
section
variable {C p l m : Addr} {R : Rws} {G G' : DG}
theorem RowsAt.nlm (h : RowsAt C p l m R G) : l ≠ m := ne_kind h.lst h.dct (by simp)
theorem RowsAt.npl (h : RowsAt C p l m R G) : p ≠ l := ne_kind h.ins h.lst (by simp)
theorem RowsAt.npm (h : RowsAt C p l m R G) : p ≠ m := ne_kind h.ins h.dct (by simp)
theorem RowsAt.ext (h : RowsAt C p l m R G) (e : Ext G G') : RowsAt C p l m R G' := ⟨e _ _ h.ins, e _ _ h.lst, e _ _ h.dct⟩
theorem RowsAt.same {S : List Addr} (h : RowsAt C p l m R G) (s : SameBut S G G') (h1 : p ∉ S) (h2 : l ∉ S) (h3 : m ∉ S) : RowsAt C p l m R G' := ⟨(s _ h1).trans h.ins, (s _ h2).trans h.lst, (s _ h3).trans h.dct⟩
end
theorem lk1 {x y : D} : ([(("rows" : Str), x), (("numbers" : Str), y)] : List (Str × D)).lookup ("rows" : Str) = some x := rfl
theorem lk2 {x y : D} : ([(("rows" : Str), x), (("numbers" : Str), y)] : List (Str × D)).lookup ("numbers" : Str) = some y := rfl
def sp_Rows_init (C : Addr) : DSp := fun ds G Q _ => ∃ p, ds = [.ref p] ∧ G p = some (.ins C []) ∧ ∀ l m G', G l = none → G m = none → RowsAt C p l m [] G' → SameBut [p, l, m] G G' → Q .non G'
def sp_Rows_number (C : Addr) : DSp := fun ds G Q _ => ∃ p l m R q, ds = [.ref p, rowD q] ∧ RowsAt C p l m R G ∧ q ≠ [] ∧ R.length < sizeLine ∧ ∀ G', RowsAt C p l m (nnum q R).2 G' → SameBut [l, m] G G' → Q (.int ((nnum q R).1 : Nat)) G'
theorem put1 {x : D} : putD "rows" x [] = [(("rows" : Str), x)] := rfl
theorem put2 {x y : D} : putD "numbers" y [(("rows" : Str), x)] = [(("rows" : Str), x), (("numbers" : Str), y)] := rfl
theorem b_Rows_init {C : Addr} {ds : List D} {G : DG} {Q : DQ} {E : DX} (h : sp_Rows_init C ds G Q E) : R_Rows_init C { nx := fun _ G' => cl Q .non G', rt := cl Q } (startD 1 ds) G := by
  obtain ⟨p, rfl, hp, k⟩ := h
  unfold R_Rows_init
  walk_at "QS"
  intro l hl
  have npl : p ≠ l := ne_new hp hl
  simp only [up_ne npl, hp]
  walk_at "QS"
  refine ⟨by simp, fun m hm => ?_⟩
  have nmp : m ≠ p := fun e => by subst e; rw [up_same] at hm; cases hm
  rw [up_ne nmp] at hm
  have nml : m ≠ l := fun e => by subst e; rw [up_same] at hm; cases hm
  rw [up_ne nml] at hm
  simp only [up_ne nmp.symm, up_same, put1]
  walk_at "QS"
  refine ⟨by simp, ?_⟩
  rw [put2]
  refine cl_of (k l m _ hl hm ⟨up_same, ?_, ?_⟩ ?_)
  · rw [up_ne npl.symm, up_ne nml.symm, up_ne npl.symm, up_same]; rfl
  · rw [up_ne nmp, up_same]; rfl
  · exact (((SameBut.up (by simp)).trans (SameBut.up (by simp))).trans (SameBut.up (by simp))).trans (SameBut.up (by simp))
theorem rowD_tup (q : List Nat) : rowD q = .tup ((q.map fun (y : Nat) => (y : Int)).map D.int) := rfl
theorem rowD_eq {q : List Nat} {ds : List D} : (rowD q = .tup ds) = ((q.map fun (y : Nat) => (y : Int)).map D.int = ds) := by
  rw [rowD_tup, D.tup.injEq]
theorem rowD_str {q : List Nat} {z : Str} : (rowD q = .str z) = False := by simp [rowD_tup]
theorem rowD_ref {q : List Nat} {z : Addr} : (rowD q = .ref z) = False := by simp [rowD_tup]
theorem vD_rowD {G : DG} (q : List Nat) : vD G (rowD q) = rowD q := rfl
theorem vS_rowD {G : DG} (q : List Nat) : vS G (rowD q) = none := rfl
theorem isN_rowD (q : List Nat) : isN (rowD q) = true := isN_tupI _
theorem okD_rowD (q : List Nat) : okD (rowD q) = true := okD_of (tupI_nice _) (by have := tupI_dep (q.map fun (y : Nat) => (y : Int)); unfold rowD; omega)
theorem ok01 : okL [D.tup [D.int 0, D.int 0, D.int 0, D.int 0], D.tup [D.int 1, D.int 1, D.int 1, D.int 1]] = true := by decide +kernel
theorem any01 (q : List Nat) : ([D.tup [D.int 0, D.int 0, D.int 0, D.int 0], D.tup [D.int 1, D.int 1, D.int 1, D.int 1]].any fun z => deqv z (rowD q)) = decide (q = [0, 0, 0, 0] ∨ q = [1, 1, 1, 1]) := by
  have e0 : D.tup [D.int 0, D.int 0, D.int 0, D.int 0] = rowD [0, 0, 0, 0] := rfl
  have e1 : D.tup [D.int 1, D.int 1, D.int 1, D.int 1] = rowD [1, 1, 1, 1] := rfl
  rw [e0, e1]
  simp only [List.any_cons, List.any_nil, deqv_rowD, Bool.or_false]
  simp only [eq_comm (b := q)]
  by_cases h0 : q = [0, 0, 0, 0] <;> by_cases h1 : q = [1, 1, 1, 1] <;> simp [h0, h1]
theorem b_Rows_number {C : Addr} {ds : List D} {G : DG} {Q : DQ} {E : DX} (h : sp_Rows_number C ds G Q E) : R_Rows_number C { nx := fun _ G' => cl Q .non G', rt := cl Q } (startD 2 ds) G := by
  obtain ⟨p, l, m, R, q, rfl, h, hq, hz, k⟩ := h
  unfold R_Rows_number
  walk_at "QS"
  simp only [vD_rowD, any01, okD_rowD, ok01, h.ins, h.lst, up_ne h.npl, up_ne h.nlm.symm, vS_rowD, rowD_eq, rowD_str]
  walk_at "QS"
  by_cases h01 : q = [0, 0, 0, 0] ∨ q = [1, 1, 1, 1]
  · simp only [h01]
    walk_at "QS"
    rcases h01 with e | e
    · subst e
      exact ⟨.int 0, rfl, cl_of (k G h (SameBut.refl _ _))⟩
    · subst e
      exact ⟨.int 1, rfl, cl_of (k G h (SameBut.refl _ _))⟩
  · simp only [h01]
    walk_at "QS"
    simp only [lk1, lk2]
    walk_at "QS"
    have hk := dkv_dn h.dct (isN_rowD q)
    have nml := h.nlm.symm
    simp only [hk, h.lst, h.ins, up_ne h.npl, up_ne nml, lk1, lk2]
    walk_at "QS"
    simp only [numsD_get]
    by_cases hm : q ∈ R
    · simp only [hm]
      walk_at "QS"
      simp only [Option.isSome_some]
      walk_at "QS"
      refine cl_of ?_
      have e : nnum q R = (R.idxOf q + 2, R) := by
        unfold nnum
        rw [if_neg (fun z => h01 (.inl z)), if_neg (fun z => h01 (.inr z)), if_pos hm]
      rw [e] at k
      exact k G h (SameBut.refl _ _)
    · simp only [hm]
      walk_at "QS"
      simp only [Option.isSome_none]
      walk_at "QS"
      have hz' : (R.map rowD).length < sizeLine := by rw [List.length_map]; exact hz
      simp only [hz', h.ins, up_ne h.npl]
      walk_at "QS"
      simp only [lk1, lk2, up_ne nml, h.dct]
      walk_at "QS"
      have hz2 : (numsD R).length < sizeLine := by rw [numsD_length]; exact hz
      have e2 : ((((R.map rowD) ++ [rowD q]).length : Nat) : Int) + 1 = ((R.length + 2 : Nat) : Int) := by simp; omega
      have e1 : putO (up G l (DO.lst (R.map rowD ++ [rowD q])) m) (rowD q) (D.int ((((R.map rowD) ++ [rowD q]).length : Nat) + 1)) = some (.dn (numsD (R ++ [q]))) := by
        rw [up_ne nml, h.dct, putO_dn (isN_rowD q) hz2, e2, numsD_put hm]
      refine ⟨⟨_, rfl⟩, _, e1, _, by rw [up_ne h.npm, up_ne h.npl]; exact h.ins, _, lk2, _, dkv_dn up_same (isN_rowD q), _, by rw [numsD_get, if_pos (List.mem_append_right _ (by simp))], cl_of ?_⟩
      have e : nnum q R = (R.length + 2, R ++ [q]) := by
        unfold nnum
        rw [if_neg (fun z => h01 (.inl z)), if_neg (fun z => h01 (.inr z)), if_neg hm]
      rw [e] at k
      have e3 : (R ++ [q]).idxOf q = R.length := by rw [List.idxOf_append, if_neg hm]; simp
      rw [e3]
      refine k _ ⟨?_, ?_, up_same⟩ ((SameBut.up (by simp)).trans (SameBut.up (by simp)))
      · rw [up_ne h.npm, up_ne h.npl]; exact h.ins
      · rw [up_ne h.nlm, up_same, List.map_append]; rfl
/-! ### quarters, order -/
theorem fn_no {P : Program} {w : World} {K : PySem.W.Frag} {mg : Str → Option Value} {base : Heap} {f : Addr} {fd : FuncData} {ps : List Str} {k : Nat} : DFn P w K mg base CX0 k f fd ps (fun _ _ _ _ => False) :=
  ⟨fun vs H Q E ⟨_, _, _, _, _, _, q, _⟩ => q.elim, fun A outer s H args us vs Q E hr he hb hv ⟨_, _, _, _, _, _, q, _⟩ => q.elim⟩
def sp_Rows_quarters (C : Addr) : DSp := fun ds G Q _ => ∃ p l m R y q, ds = [.ref p, .int ((y : Nat) : Int)] ∧ RowsAt C p l m R G ∧ ((y < 2 ∧ q = [y, y, y, y]) ∨ (2 ≤ y ∧ R[y - 2]? = some q)) ∧ Q (rowD q) G
theorem atI_nat {α : Type} {xs : List α} {i : Nat} {x : α} (h : xs[i]? = some x) : atI xs ((i : Nat) : Int) = some x := by
  have hl := (List.getElem?_eq_some_iff.mp h).1
  have e : ixN xs.length ((i : Nat) : Int) = some i := by
    unfold ixN
    rw [if_pos (by omega), if_pos (by omega)]
    simp
  unfold atI
  rw [e]
  exact h
theorem b_Rows_quarters {C : Addr} {ds : List D} {G : DG} {Q : DQ} {E : DX} (h : sp_Rows_quarters C ds G Q E) : R_Rows_quarters C { nx := fun _ G' => cl Q .non G', rt := cl Q } (startD 2 ds) G := by
  obtain ⟨p, l, m, R, y, q, rfl, h, hy, k⟩ := h
  unfold R_Rows_quarters
  walk_at "QS"
  rcases hy with ⟨h2, e⟩ | ⟨h2, e⟩
  · subst e
    have : ((y : Nat) : Int) < 2 := by omega
    simp only [this]
    walk_at "QS"
    exact cl_of k
  · have : ¬ ((y : Nat) : Int) < 2 := by omega
    simp only [this, h.ins]
    walk_at "QS"
    simp only [lk1, h.lst]
    walk_at "QS"
    have e1 : ((y : Nat) : Int) - 2 = ((y - 2 : Nat) : Int) := by omega
    have e2 : (R.map rowD)[y - 2]? = some (rowD q) := by rw [List.getElem?_map, e]; rfl
    simp only [h.lst]
    walk_at "QS"
    rw [e1]
    exact ⟨_, atI_nat e2, cl_of k⟩
def foundD (F : List Nat) : List (D × D) := F.zipIdx.map fun p => (.int ((p.1 : Nat) : Int), .int ((p.2 + 2 : Nat) : Int))
theorem foundD_get {F : List Nat} {x : Nat} : dgetL (foundD F) (.int ((x : Nat) : Int)) = if x ∈ F then some (.int ((F.idxOf x + 2 : Nat) : Int)) else none := by
  have key : ∀ (R : List Nat) (k : Nat), (((R.zipIdx k).map fun p => ((D.int ((p.1 : Nat) : Int) : D), D.int ((p.2 + 2 : Nat) : Int))).find? fun p => decide (p.1.norm = (D.int ((x : Nat) : Int)).norm)).map (·.2) = if x ∈ R then some (.int ((R.idxOf x + k + 2 : Nat) : Int)) else none := by
    intro R
    induction R with
    | nil => intro k; rfl
    | cons r R ih =>
      intro k
      rw [List.zipIdx_cons, List.map_cons, List.find?_cons]
      by_cases h : r = x
      · subst h
        simp
      · have h1 : decide ((D.int ((r : Nat) : Int)).norm = (D.int ((x : Nat) : Int)).norm) = false := decide_eq_false fun e => h (by
          simp only [D.norm, NestedKey.num.injEq] at e
          omega)
        simp only [h1]
        rw [ih (k + 1)]
        have h2 : ¬ x = r := fun e => h e.symm
        simp only [List.mem_cons, h2, false_or, List.idxOf_cons]
        have h3 : (r == x) = false := beq_eq_false_iff_ne.mpr h
        simp only [h3, cond_false]
        split
        · congr 3; omega
        · rfl
  have := key F 0
  simpa [dgetL, foundD] using this
theorem foundD_put {F : List Nat} {x : Nat} (h : x ∉ F) : dputL (foundD F) (.int ((x : Nat) : Int)) (.int ((F.length + 2 : Nat) : Int)) = foundD (F ++ [x]) := by
  unfold dputL
  rw [foundD_get, if_neg h]
  simp [foundD, List.zipIdx_append]
theorem foundD_length (F : List Nat) : (foundD F).length = F.length := by simp [foundD]
theorem ordF_len (R : Rws) : ∀ (t : QT) (x : Nat) (F : List Nat), F.length ≤ (ordF R t x F).length := by
  intro t
  induction t with
  | lf b => intro x F; exact Nat.le_refl _
  | nd a b c d i1 i2 i3 i4 =>
    intro x F
    unfold ordF
    split
    · exact Nat.le_refl _
    · split
      · rename_i qa qb qc qd _
        have := i1 qa F
        have := i2 qb (ordF R a qa F)
        have := i3 qc (ordF R b qb (ordF R a qa F))
        have := i4 qd (ordF R c qc (ordF R b qb (ordF R a qa F)))
        rw [List.length_append]
        omega
      · exact Nat.le_refl _
theorem ordF_mem {R : Rws} (ok : OkR R) : ∀ (t : QT) (x : Nat) (F : List Nat) (y : Nat), Den R x t → y ∈ ordF R t x F → y ∈ F ∨ y ≤ x := by
  intro t
  induction t with
  | lf b => intro x F y _ h; exact .inl h
  | nd ta tb tc td i1 i2 i3 i4 =>
    intro x F y hd h
    cases hd with
    | @nd x a b c d _ _ _ _ hr da db dc dd =>
      unfold ordF at h
      split at h
      · exact .inl h
      · simp only [show x + 2 - 2 = x from rfl, hr] at h
        obtain ⟨_, hlt, _, _⟩ := ok.ok _ _ hr
        have ha := hlt a (by simp)
        have hb := hlt b (by simp)
        have hc := hlt c (by simp)
        have hd := hlt d (by simp)
        rcases List.mem_append.mp h with h | h
        · rcases i4 d _ y dd h with h | h
          · rcases i3 c _ y dc h with h | h
            · rcases i2 b _ y db h with h | h
              · rcases i1 a _ y da h with h | h
                · exact .inl h
                · exact .inr (by omega)
              · exact .inr (by omega)
            · exact .inr (by omega)
          · exact .inr (by omega)
        · rw [List.mem_singleton.mp h]
          exact .inr (Nat.le_refl _)
def sp_Rows_order (C : Addr) (n : Nat) : DSp := fun ds G Q _ => ∃ p l m R x t f F, ds = [.ref p, .int ((x : Nat) : Int), .ref f] ∧ RowsAt C p l m R G ∧ OkR R ∧ Den R x t ∧ ht t ≤ n ∧ G f = some (.dk (foundD F)) ∧ (ordF R t x F).length < sizeLine ∧ Q .non (up G f (.dk (foundD (ordF R t x F))))
theorem lkm {m : Str} {x y : D} (h1 : (m == ("rows" : Str)) = false) (h2 : (m == ("numbers" : Str)) = false) : ([(("rows" : Str), x), (("numbers" : Str), y)] : List (Str × D)).lookup m = none := by
  simp only [List.lookup, h1, h2]
theorem lko {x y : D} : ([(("rows" : Str), x), (("numbers" : Str), y)] : List (Str × D)).lookup ("order" : Str) = none := lkm (by decide) (by decide)
theorem lkq {x y : D} : ([(("rows" : Str), x), (("numbers" : Str), y)] : List (Str × D)).lookup ("quarters" : Str) = none := lkm (by decide) (by decide)
theorem lkn {x y : D} : ([(("rows" : Str), x), (("numbers" : Str), y)] : List (Str × D)).lookup ("number" : Str) = none := lkm (by decide) (by decide)
theorem lkt {x y : D} : ([(("rows" : Str), x), (("numbers" : Str), y)] : List (Str × D)).lookup ("take" : Str) = none := lkm (by decide) (by decide)
theorem lks {x y : D} : ([(("rows" : Str), x), (("numbers" : Str), y)] : List (Str × D)).lookup ("shape" : Str) = none := lkm (by decide) (by decide)
theorem b_Rows_order {C : Addr} {n : Nat} {so : DSp} (hso : ∀ j, n = j + 1 → so = sp_Rows_order C j) {ds : List D} {G : DG} {Q : DQ} {E : DX} (h : sp_Rows_order C n ds G Q E) : R_Rows_order C (sp_Rows_quarters C) so { nx := fun _ G' => cl Q .non G', rt := cl Q } (startD 4 ds) G := by
  obtain ⟨p, l, m, R, x, t, f, F, rfl, h, ok, hd, hn, hf, hz, k⟩ := h
  unfold R_Rows_order
  walk_at "QS"
  by_cases hx : x < 2
  · have e : ¬ (1 : Int) < ((x : Nat) : Int) := by omega
    simp only [e]
    walk_at "QS"
    have : ordF R t x F = F := by
      cases hd with
      | z => rfl
      | o => rfl
      | nd => omega
    rw [this, up_id hf] at k
    exact cl_of k
  · have e : (1 : Int) < ((x : Nat) : Int) := by omega
    have hk := dkv_dk hf (k := .int ((x : Nat) : Int)) isK_int
    simp only [e, hk]
    walk_at "QS"
    simp only [foundD_get]
    cases hd with
    | z => omega
    | o => omega
    | @nd x a b c d ta tb tc td hr da db dc dd =>
      by_cases hm : x + 2 ∈ F
      · simp only [hm]
        walk_at "QS"
        simp only [Option.isSome_some]
        walk_at "QS"
        have : ordF R (.nd ta tb tc td) (x + 2) F = F := by unfold ordF; rw [if_pos hm]
        rw [this, up_id hf] at k
        exact cl_of k
      · simp only [hm]
        walk_at "QS"
        simp only [Option.isSome_none, h.ins]
        walk_at "QS"
        simp only [lkq]
        walk_at "QS"
        refine ⟨p, l, m, R, x + 2, [a, b, c, d], rfl, h, .inr ⟨by omega, hr⟩, ?_⟩
        simp only [rowD_tup]
        walk_at "QS"
        simp only [feach]
        walk_at "QS"
        have eo : ordF R (.nd ta tb tc td) (x + 2) F = ordF R td d (ordF R tc c (ordF R tb b (ordF R ta a F))) ++ [x + 2] := by
          conv => lhs; unfold ordF
          rw [if_neg hm]
          simp only [show x + 2 - 2 = x from rfl, hr]
        have hz' := hz
        rw [eo, List.length_append] at hz'
        have l1 := ordF_len R tb b (ordF R ta a F)
        have l2 := ordF_len R tc c (ordF R tb b (ordF R ta a F))
        have l3 := ordF_len R td d (ordF R tc c (ordF R tb b (ordF R ta a F)))
        simp only [List.length_singleton] at hz'
        have hn' : 1 + max (max (ht ta) (ht tb)) (max (ht tc) (ht td)) ≤ n := hn
        obtain ⟨j, rfl⟩ : ∃ j, n = j + 1 := ⟨n - 1, by omega⟩
        rw [hso j rfl]
        have hp : f ≠ p := ne_kind hf h.ins (by simp)
        have hl : f ≠ l := ne_kind hf h.lst (by simp)
        have hmm : f ≠ m := ne_kind hf h.dct (by simp)
        have ext : ∀ o, RowsAt C p l m R (up G f o) := fun o => ⟨by rw [up_ne hp.symm]; exact h.ins, by rw [up_ne hl.symm]; exact h.lst, by rw [up_ne hmm.symm]; exact h.dct⟩
        refine ⟨_, h.ins, lko, p, l, m, R, a, ta, f, F, rfl, h, ok, da, by omega, hf, by omega, ?_⟩
        refine ⟨_, (ext _).ins, lko, p, l, m, R, b, tb, f, _, rfl, ext _, ok, db, by omega, up_same, by omega, ?_⟩
        rw [up_up]
        refine ⟨_, (ext _).ins, lko, p, l, m, R, c, tc, f, _, rfl, ext _, ok, dc, by omega, up_same, by omega, ?_⟩
        rw [up_up]
        refine ⟨_, (ext _).ins, lko, p, l, m, R, d, td, f, _, rfl, ext _, ok, dd, by omega, up_same, by omega, ?_⟩
        rw [up_up]
        obtain ⟨_, hlt, _, _⟩ := ok.ok _ _ hr
        have ha := hlt a (by simp)
        have hb := hlt b (by simp)
        have hc := hlt c (by simp)
        have hd := hlt d (by simp)
        have nx : x + 2 ∉ ordF R td d (ordF R tc c (ordF R tb b (ordF R ta a F))) := fun g => by
          rcases ordF_mem ok td d _ _ dd g with g | g
          · rcases ordF_mem ok tc c _ _ dc g with g | g
            · rcases ordF_mem ok tb b _ _ db g with g | g
              · rcases ordF_mem ok ta a _ _ da g with g | g
                · exact hm g
                · omega
              · omega
            · omega
          · omega
        show ∃ n, lenO (up G f _ f) = some n ∧ ∃ o, putO (up G f _ f) _ _ = some o ∧ cl Q D.non (up (up G f _) f o)
        rw [up_same]
        refine ⟨_, lenO_dk, .dk (foundD (ordF R td d (ordF R tc c (ordF R tb b (ordF R ta a F))) ++ [x + 2])), ?_, ?_⟩
        · rw [putO_dk isK_int (by rw [foundD_length]; omega), foundD_length]
          have e5 : ((((ordF R td d (ordF R tc c (ordF R tb b (ordF R ta a F)))).length : Nat) : Int) + 2) = (((ordF R td d (ordF R tc c (ordF R tb b (ordF R ta a F)))).length + 2 : Nat) : Int) := by omega
          rw [e5, foundD_put nx]
        · rw [up_up, ← eo]
          exact cl_of k
def tellD (n : Int) (x : Nat) (T : Rws) : D := .tup [.int n, .int ((x : Nat) : Int), .tup (T.map rowD)]
def sp_Rows_shape (C : Addr) (N : Nat) : DSp := fun ds G Q _ => ∃ p l m R x t n, ds = [.ref p, .int n, .int ((x : Nat) : Int)] ∧ RowsAt C p l m R G ∧ OkR R ∧ Den R x t ∧ ht t ≤ N ∧ R.length + 10 < sizeLine ∧ Q (tellD n (tell t []).1 (tell t []).2) G
def newD (S : List Nat) : List (D × D) := foundD S ++ [(.int 0, .int 0), (.int 1, .int 1)]
theorem dgetL_append {a b : List (D × D)} {k : D} : dgetL (a ++ b) k = (dgetL a k).or (dgetL b k) := by
  unfold dgetL
  rw [List.find?_append]
  cases a.find? (fun p => decide (p.1.norm = k.norm)) <;> rfl
theorem newD_get {S : List Nat} (h2 : ∀ y ∈ S, 2 ≤ y) {y : Nat} (h : y < 2 ∨ y ∈ S) : dgetL (newD S) (.int ((y : Nat) : Int)) = some (.int ((newOf S y : Nat) : Int)) := by
  unfold newD
  rw [dgetL_append, foundD_get]
  unfold newOf
  by_cases hy : y ∈ S
  · have := h2 y hy
    rw [if_pos hy, if_neg (by omega)]
    rfl
  · rw [if_neg hy]
    rcases h with h | h
    · rw [if_pos h]
      have : y = 0 ∨ y = 1 := by omega
      rcases this with e | e <;> subst e <;> rfl
    · exact absurd h hy
theorem newD_make {S : List Nat} (h2 : ∀ y ∈ S, 2 ≤ y) : dputL (dputL (foundD S) (.int 0) (.int 0)) (.int 1) (.int 1) = newD S := by
  have h0 : (0 : Nat) ∉ S := fun h => by have := h2 _ h; omega
  have h1 : (1 : Nat) ∉ S := fun h => by have := h2 _ h; omega
  have e0 : dputL (foundD S) (.int 0) (.int 0) = foundD S ++ [(.int 0, .int 0)] := by
    unfold dputL
    have := foundD_get (F := S) (x := 0)
    rw [if_neg h0] at this
    rw [show (D.int 0) = .int ((0 : Nat) : Int) from rfl, this]
    rfl
  rw [e0]
  unfold dputL
  have : dgetL (foundD S ++ [(D.int 0, D.int 0)]) (.int 1) = none := by
    rw [dgetL_append]
    have := foundD_get (F := S) (x := 1)
    rw [if_neg h1] at this
    rw [show (D.int 1) = .int ((1 : Nat) : Int) from rfl, this]
    rfl
  rw [this]
  simp [newD]
theorem newD_keys (S : List Nat) : (newD S).map (·.1) = (S ++ [0, 1]).map fun (y : Nat) => D.int ((y : Nat) : Int) := by
  unfold newD foundD
  rw [List.map_append, List.map_map, List.map_append]
  congr 1
  apply List.ext_getElem?
  intro i
  simp only [List.getElem?_map, List.getElem?_zipIdx]
  cases S[i]? <;> rfl
theorem fm_map {α β γ : Type} {f : β → Option γ} {g : α → β} {h : α → γ} : ∀ {l : List α}, (∀ z ∈ l, f (g z) = some (h z)) → (l.map g).filterMap f = l.map h
  | [], _ => rfl
  | a :: as, k => by
    rw [List.map_cons, List.filterMap_cons_some (k a List.mem_cons_self), List.map_cons, fm_map fun z hz => k z (List.mem_cons_of_mem _ hz)]
theorem b_Rows_shape {C : Addr} {N : Nat} {ds : List D} {G : DG} {Q : DQ} {E : DX} (h : sp_Rows_shape C N ds G Q E) : R_Rows_shape C (sp_Rows_order C N) (sp_Rows_quarters C) { nx := fun _ G' => cl Q .non G', rt := cl Q } (startD 7 ds) G := by
  obtain ⟨p, l, m, R, x, t, n, rfl, h, ok, hd, hN, hz, k⟩ := h
  obtain ⟨S, T, e1, f1, t1, m1, l1⟩ := ord_spec ok t x [] [] hd (FT.nil R)
  rw [List.nil_append] at e1 f1 t1 m1
  rw [t1] at k
  have h2 : ∀ y ∈ S, 2 ≤ y := fun y hy => by
    obtain ⟨i, hi, e⟩ := List.getElem_of_mem hy
    obtain ⟨q, a, _⟩ := f1.in (List.getElem?_eq_getElem hi)
    rw [← e]; exact a
  unfold R_Rows_shape
  walk_at "QS"
  intro f hf
  have hr := h.ext (Ext.new (o := .dk []) hf)
  simp only [hr.ins]
  walk_at "QS"
  simp only [lko]
  walk_at "QS"
  have hSl : S.length ≤ R.length + 2 := by
    have := L2.nat_nodup_len S (List.range (R.length + 2)) f1.nd fun y hy => by
      obtain ⟨i, hi, e⟩ := List.getElem_of_mem hy
      obtain ⟨q, a, b, _⟩ := f1.in (List.getElem?_eq_getElem hi)
      have := (List.getElem?_eq_some_iff.mp b).1
      rw [List.mem_range]
      omega
    simpa using this
  refine ⟨p, l, m, R, x, t, f, [], rfl, hr, ok, hd, hN, up_same, by rw [e1]; omega, ?_⟩
  rw [e1, up_up]
  walk_at "QS"
  have hl1 : (foundD S).length < sizeLine := by rw [foundD_length]; omega
  have hl2 : (dputL (foundD S) (.int 0) (.int 0)).length < sizeLine := by
    have := dputL_length (foundD S) (.int 0) (.int 0)
    rw [foundD_length] at this
    omega
  refine ⟨_, putO_dk isK_int hl1, _, putO_dk isK_int hl2, fun r hr1 => ?_⟩
  rw [up_up, up_up, newD_make h2] at hr1 ⊢
  have nrf : r ≠ f := fun e => by subst e; rw [up_same] at hr1; cases hr1
  rw [up_ne nrf] at hr1
  refine ⟨f, newD S, .inl ⟨by rw [up_ne nrf.symm, up_same], fun od ks => ?_⟩⟩
  walk_at "QS"
  rw [newD_keys]
  have ext : ∀ o u, Ext G (up (up G f o) r u) := fun o u => (Ext.new hf).trans (Ext.new (by rw [up_ne nrf]; exact hr1))
  refine feach_inv (fun pre τ G' => ∃ o5, τ = [some (.ref p), some (.int n), some (.int ((x : Nat) : Int)), some (.ref f), some (.ref r), o5, none] ∧ G' = up (up G f (.lk od (.dK ks) (newD S))) r (.lst ((T.take pre.length).map rowD))) ?_ ?_ ?_ ?_
  · refine ⟨none, rfl, ?_⟩
    rw [up_comm nrf, up_up]
    rfl
  · rintro pre τ G' ⟨o5, rfl, rfl⟩
    rw [up_ne nrf.symm, up_same]
  · rintro pre d post τ G' e ⟨o5, rfl, rfl⟩
    refine ⟨_, rfl, fun K hK => ?_⟩
    walk_at "QS"
    have hi : ((S ++ [0, 1]).map fun (y : Nat) => D.int ((y : Nat) : Int))[pre.length]? = some d := by
      rw [e, List.getElem?_append_right (Nat.le_refl _), Nat.sub_self]; rfl
    rw [List.getElem?_map] at hi
    cases hy : (S ++ [0, 1])[pre.length]? with
    | none => rw [hy] at hi; cases hi
    | some y =>
      rw [hy] at hi
      cases hi
      refine ⟨_, rfl, ?_⟩
      have lk : ∀ u, up (up G f (.lk od (.dK ks) (newD S))) r u f = some (.lk od (.dK ks) (newD S)) := fun u => by rw [up_ne nrf.symm, up_same]
      by_cases hs : pre.length < S.length
      · rw [List.getElem?_append_left hs] at hy
        obtain ⟨q, a1, a2, a3, a4⟩ := f1.in hy
        have c : (1 : Int) < ((y : Nat) : Int) := by omega
        simp only [c]
        walk_at "QS"
        refine ⟨⟨_, rfl⟩, _, (h.ext (ext _ _)).ins, lkq, p, l, m, R, y, q, rfl, h.ext (ext _ _), .inr ⟨a1, a2⟩, ?_⟩
        simp only [rowD_tup]
        walk_at "QS"
        intro c hc
        have ncr : r ≠ c := ne_new up_same hc
        have hq : (((q.map fun (y : Nat) => ((y : Nat) : Int)).map D.int).filterMap (dgetL (newD S))) = (((q.map (newOf S)).map fun (y : Nat) => ((y : Nat) : Int)).map D.int) := by
          rw [List.map_map, List.map_map, List.map_map]
          exact fm_map fun z hz => newD_get h2 (a3 z hz)
        have ql := (ok.ok _ _ a2).1
        refine lceach_pure (dgetL (newD S)) hc (fun _ _ => trivial) (fun d' hd' => ?_) ?_ ?_
        · refine ⟨_, rfl, fun G2 e2 Kt Kf hk => ?_⟩
          rw [List.map_map] at hd'
          obtain ⟨z, hz, rfl⟩ := List.mem_map.mp hd'
          have gz := newD_get h2 (a3 z hz)
          simp only [Function.comp] at hk ⊢
          rw [gz] at hk
          walk_at "QS"
          exact ⟨_, dkv_lkK (e2 _ _ (lk _)) isK_int, _, gz, hk⟩
        · rw [hq]
          simp only [List.length_map]
          rw [ql]
          decide
        · rw [hq]
          walk_at "QS"
          rw [del_up hc]
          refine ⟨_, up_same, ?_, hK _ _ ⟨_, rfl, ?_⟩⟩
          · simp only [List.length_map, List.length_take]
            omega
          · rw [up_up]
            congr 2
            rw [List.length_append, List.length_singleton, List.take_succ, a4, List.map_append]
            rfl
      · have hy2 : y < 2 := by
          rw [List.getElem?_append_right (by omega)] at hy
          have := List.mem_of_getElem? hy
          simp at this
          omega
        have c : ¬ (1 : Int) < ((y : Nat) : Int) := by omega
        simp only [c]
        walk_at "QS"
        refine hK _ _ ⟨_, rfl, ?_⟩
        rw [List.take_of_length_le (by rw [← f1.len]; omega), List.take_of_length_le (by rw [← f1.len]; simp; omega)]
  · rintro τ G' ⟨o5, rfl, rfl⟩
    walk_at "QS"
    have hT : T.take ((S ++ [0, 1]).map fun (y : Nat) => D.int ((y : Nat) : Int)).length = T := List.take_of_length_le (by rw [← f1.len]; simp)
    rw [hT]
    refine ⟨by rw [up_ne nrf.symm, up_same], _, dkv_dk up_same isK_int, _, newD_get h2 m1, _, by rw [up_ne nrf, up_same]; rfl, cl_less (fun a o e => ?_) k⟩
    rw [up_ne (ne_new e hf)]
    exact ext _ _ _ _ e
/-- the one telling of t, a floor of size n -/
structure Canon (n x : Nat) (T : Rws) (t : QT) : Prop where
  ok : OkR T
  den : Den T x t
  tl : tell t [] = (x, T)
  ht : ht t ≤ n
def sp_Rows_take (C : Addr) : DSp := fun ds G Q _ => ∃ p l m n x T, ds = [.ref p, tellD n x T] ∧ RowsAt C p l m [] G ∧ OkR T ∧ x < T.length + 2 ∧ T.length + 10 < sizeLine ∧ ∀ G', RowsAt C p l m T G' → SameBut [l, m] G G' → Q (.int ((x : Nat) : Int)) G'
theorem nnum_fresh {T : Rws} (ok : OkR T) {i : Nat} {q : List Nat} (h : T[i]? = some q) : nnum q (T.take i) = (i + 2, T.take (i + 1)) := by
  obtain ⟨_, _, z, o⟩ := ok.ok _ _ h
  have hl := (List.getElem?_eq_some_iff.mp h).1
  have nm : q ∉ T.take i := fun g => by
    obtain ⟨j, hj, e⟩ := List.getElem_of_mem g
    have hj2 : j < i := by simp at hj; omega
    have : T[j]? = some q := by
      rw [List.getElem_take] at e
      rw [List.getElem?_eq_getElem (by omega), e]
    have := nodup_ix ok.nd this h
    omega
  unfold nnum
  rw [if_neg z, if_neg o, if_neg nm, List.length_take, List.take_succ, h]
  congr 1
  omega
def hereD (k : Nat) : List D := (List.range k).map fun (y : Nat) => D.int ((y : Nat) : Int)
theorem hereD_get {k y : Nat} (h : y < k) : (hereD k)[y]? = some (.int ((y : Nat) : Int)) := by
  unfold hereD
  rw [List.getElem?_map, List.getElem?_range h]
  rfl
theorem hereD_snoc (k : Nat) : hereD k ++ [.int ((k : Nat) : Int)] = hereD (k + 1) := by
  unfold hereD
  rw [List.range_succ, List.map_append]
  rfl
theorem b_Rows_take {C : Addr} {ds : List D} {G : DG} {Q : DQ} {E : DX} (h : sp_Rows_take C ds G Q E) : R_Rows_take C (sp_Rows_number C) { nx := fun _ G' => cl Q .non G', rt := cl Q } (startD 8 ds) G := by
  obtain ⟨p, l, m, n, x, T, rfl, h, ok, hx, hz, k⟩ := h
  unfold R_Rows_take
  simp only [tellD]
  walk_at "QS"
  intro r hr
  have nrp : p ≠ r := ne_new h.ins hr
  have nrl : l ≠ r := ne_new h.lst hr
  have nrm : m ≠ r := ne_new h.dct hr
  refine feach_inv (fun pre τ G' => ∃ o5 o6, τ = [some (.ref p), some (tellD n x T), some (.int n), some (.int ((x : Nat) : Int)), some (.tup (T.map rowD)), some (.ref r), o5, o6] ∧ RowsAt C p l m (T.take pre.length) G' ∧ SameBut [l, m, r] G G' ∧ G' r = some (.lst (hereD (pre.length + 2)))) ?_ ?_ ?_ ?_
  · refine ⟨none, none, rfl, ?_, SameBut.up (by simp), by rw [up_same]; rfl⟩
    exact h.ext (Ext.new hr)
  · exact fun _ _ _ _ => trivial
  · rintro pre d post τ G' e ⟨o5, o6, rfl, h', sb, hh⟩
    have hi : (T.map rowD)[pre.length]? = some d := by
      rw [e, List.getElem?_append_right (Nat.le_refl _), Nat.sub_self]; rfl
    rw [List.getElem?_map] at hi
    cases hq : T[pre.length]? with
    | none => rw [hq] at hi; cases hi
    | some q =>
      rw [hq] at hi
      cases hi
      have hl := (List.getElem?_eq_some_iff.mp hq).1
      obtain ⟨ql, qlt, _, _⟩ := ok.ok _ _ hq
      refine ⟨_, rfl, fun K hK => ?_⟩
      simp only [rowD_tup]
      walk_at "QS"
      simp only [hh, h'.ins]
      walk_at "QS"
      simp only [lkn]
      walk_at "QS"
      refine ⟨⟨_, rfl⟩, fun c hc => ?_⟩
      have nrc : r ≠ c := ne_new hh hc
      have hf : (((q.map fun (y : Nat) => ((y : Nat) : Int)).map D.int).filterMap fun d => some d) = ((q.map fun (y : Nat) => ((y : Nat) : Int)).map D.int) := by
        rw [List.filterMap_some]
      refine lceach_pure (fun d => some d) hc (fun _ _ => trivial) (fun d' hd' => ?_) ?_ ?_
      · refine ⟨_, rfl, fun G2 e2 Kt Kf hk => ?_⟩
        rw [List.map_map] at hd'
        obtain ⟨z, hz', rfl⟩ := List.mem_map.mp hd'
        simp only [Function.comp] at hk ⊢
        walk_at "QS"
        simp only [e2 _ _ hh]
        walk_at "QS"
        exact ⟨_, atI_nat (hereD_get (qlt z hz')), hk⟩
      · rw [hf]
        simp only [List.length_map]
        rw [ql]
        decide
      · rw [hf]
        walk_at "QS"
        rw [del_up hc]
        refine ⟨p, l, m, T.take pre.length, q, rfl, h', (fun e => by rw [e] at ql; cases ql), (by simp; omega), fun G3 h3 s3 => ?_⟩
        rw [nnum_fresh ok hq] at h3 ⊢
        have e3 : G3 r = some (.lst (hereD (pre.length + 2))) := by
          rw [s3 r (by simp; exact ⟨nrl.symm, nrm.symm⟩)]; exact hh
        simp only [e3]
        walk_at "QS"
        refine ⟨by simp [hereD]; omega, hK _ _ ⟨_, _, rfl, ?_, ?_, ?_⟩⟩
        · rw [List.length_append, List.length_singleton]
          exact ⟨by rw [up_ne nrp]; exact h3.ins, by rw [up_ne nrl]; exact h3.lst, by rw [up_ne nrm]; exact h3.dct⟩
        · intro b hb
          simp only [List.mem_cons, List.not_mem_nil, or_false, not_or] at hb
          rw [up_ne hb.2.2, s3 b (by simp; exact ⟨hb.1, hb.2.1⟩)]
          exact sb b (by simp; exact hb)
        · rw [up_same, List.length_append, List.length_singleton, hereD_snoc]
  · rintro τ G' ⟨o5, o6, rfl, h', sb, hh⟩
    walk_at "QS"
    rw [List.length_map, List.take_length] at h'
    rw [List.length_map] at hh
    rw [hh]
    refine ⟨_, atI_nat (hereD_get hx), cl_less (G' := del G' r) (fun a o e => ?_) (k _ ?_ ?_)⟩
    · by_cases ha : a = r
      · subst ha; rw [del_same] at e; cases e
      · rw [del_ne ha] at e; exact e
    · exact ⟨by rw [del_ne nrp]; exact h'.ins, by rw [del_ne nrl]; exact h'.lst, by rw [del_ne nrm]; exact h'.dct⟩
    · intro b hb
      by_cases ha : b = r
      · subst ha; rw [del_same, hr]
      · rw [del_ne ha]
        simp at hb
        exact sb b (by simp; exact ⟨hb.1, hb.2, ha⟩)
theorem tyD_int {G : DG} {i : Int} : tyD G (.int i) = "int" := rfl
theorem tyD_tup {G : DG} {ds : List D} : tyD G (.tup ds) = "tuple" := rfl
theorem kit_ii : kitB "int" "int" = some true := by decide +kernel
theorem kit_ib : kitB "int" "bool" = some false := by decide +kernel
theorem kit_tt : kitB "tuple" "tuple" = some true := by decide +kernel
def sp_is_whole : DSp := fun ds G Q _ => ∃ i, ds = [.int i] ∧ Q (.bl true) G
theorem b_is_whole {ds : List D} {G : DG} {Q : DQ} {E : DX} (h : sp_is_whole ds G Q E) : R_is_whole { nx := fun _ G' => cl Q .non G', rt := cl Q } (startD 1 ds) G := by
  obtain ⟨i, rfl, k⟩ := h
  unfold R_is_whole
  walk_at "QS"
  simp only [tyD_int, kit_ii, kit_ib]
  walk_at "QS"
  exact ⟨by decide, by decide, by decide, by decide, cl_of k⟩
def sp_is_size : DSp := fun ds G Q _ => ∃ i, ds = [.int i] ∧ Q (.bl (decide (0 ≤ i ∧ i ≤ 12))) G
theorem b_is_size {ds : List D} {G : DG} {Q : DQ} {E : DX} (h : sp_is_size ds G Q E) : R_is_size sp_is_whole { nx := fun _ G' => cl Q .non G', rt := cl Q } (startD 1 ds) G := by
  obtain ⟨i, rfl, k⟩ := h
  unfold R_is_size
  walk_at "QS"
  refine ⟨i, rfl, true, rfl, ?_⟩
  by_cases h1 : 0 ≤ i <;> by_cases h2 : i ≤ 12 <;> (simp only [h1, h2] at k ⊢; walk_at "QS"; first | exact cl_of (by simpa using k) | exact ⟨_, rfl, by simpa using cl_of (by simpa using k)⟩)
def sp_is_number : DSp := fun ds G Q _ => ∃ i j, ds = [.int i, .int j] ∧ Q (.bl (decide (0 ≤ i ∧ i < j))) G
theorem b_is_number {ds : List D} {G : DG} {Q : DQ} {E : DX} (h : sp_is_number ds G Q E) : R_is_number sp_is_whole { nx := fun _ G' => cl Q .non G', rt := cl Q } (startD 2 ds) G := by
  obtain ⟨i, j, rfl, k⟩ := h
  unfold R_is_number
  walk_at "QS"
  refine ⟨i, rfl, true, rfl, ?_⟩
  by_cases h1 : 0 ≤ i <;> by_cases h2 : i < j <;> (simp only [h1, h2] at k ⊢; walk_at "QS"; first | exact cl_of (by simpa using k) | exact ⟨_, rfl, by simpa using cl_of (by simpa using k)⟩)
def sp_is_row : DSp := fun ds G Q _ => ∃ (q : List Nat) (i : Nat), ds = [rowD q, .int ((i : Nat) : Int)] ∧ q.length = 4 ∧ (∀ y ∈ q, y < i + 2) ∧ Q (.bl true) G
theorem map_bl {α : Type} {l : List α} {f : α → Bool} : l.map (fun a => D.bl (f a)) = (l.map f).map D.bl := by rw [List.map_map]; rfl
theorem b_is_row {ds : List D} {G : DG} {Q : DQ} {E : DX} (h : sp_is_row ds G Q E) : R_is_row sp_is_number { nx := fun _ G' => cl Q .non G', rt := cl Q } (startD 3 ds) G := by
  obtain ⟨q, i, rfl, ql, qlt, k⟩ := h
  unfold R_is_row
  simp only [rowD_tup]
  walk_at "QS"
  simp only [tyD_tup, kit_tt]
  walk_at "QS"
  refine ⟨by decide, by decide, ?_⟩
  have e4 : ((((q.map fun (y : Nat) => ((y : Nat) : Int)).map D.int).length : Nat) : Int) = 4 := by simp [ql]
  simp only [e4]
  walk_at "QS"
  intro l hl
  have hf : (((q.map fun (y : Nat) => ((y : Nat) : Int)).map D.int).filterMap fun _ => some (D.bl true)) = (List.replicate q.length true).map D.bl := by
    rw [List.map_map]
    have := fm_map (f := fun _ : D => some (D.bl true)) (g := D.int ∘ fun (y : Nat) => ((y : Nat) : Int)) (h := fun _ => D.bl true) (l := q) (fun z hz => rfl)
    rw [this, List.map_const', List.map_replicate]
  refine lceach_pure (fun _ => some (D.bl true)) hl (fun _ _ => trivial) (fun d hd => ?_) ?_ ?_
  · rw [List.map_map] at hd
    obtain ⟨z, hz, rfl⟩ := List.mem_map.mp hd
    refine ⟨_, rfl, fun G2 e2 Kt Kf hk => ?_⟩
    walk_at "QS"
    refine ⟨_, _, rfl, ?_⟩
    have c : decide (0 ≤ ((z : Nat) : Int) ∧ ((z : Nat) : Int) < ((i : Nat) : Int) + 2) = true := by
      have := qlt z hz
      rw [decide_eq_true_eq]
      omega
    rw [c]
    exact hk
  · rw [hf]; simp [ql]; decide
  · rw [hf]
    walk_at "QS"
    refine ⟨_, rfl, ?_⟩
    rw [del_up hl]
    have : (List.replicate q.length true).all id = true := by simp
    rw [this]
    exact cl_of k
def sp_depths_of : DSp := fun ds G Q _ => ∃ T, ds = [.tup (T.map rowD)] ∧ OkR T ∧ T.length + 10 < sizeLine ∧ ∀ dl : List Nat, dl.length = T.length + 2 → (∀ y t, Den T y t → dl[y]? = some (ht t)) → Q (.lst (dl.map fun (y : Nat) => D.int ((y : Nat) : Int))) G
theorem b_depths_of {ds : List D} {G : DG} {Q : DQ} {E : DX} (h : sp_depths_of ds G Q E) : R_depths_of { nx := fun _ G' => cl Q .non G', rt := cl Q } (startD 4 ds) G := by
  obtain ⟨T, rfl, ok, hz, k⟩ := h
  unfold R_depths_of
  walk_at "QS"
  intro r hr
  refine feach_inv (fun pre τ G' => ∃ o2 o3, τ = [some (.tup (T.map rowD)), some (.ref r), o2, o3] ∧ ∃ dl : List Nat, dl.length = pre.length + 2 ∧ (∀ y t, y < pre.length + 2 → Den T y t → dl[y]? = some (ht t)) ∧ G' = up G r (.lst (dl.map fun (y : Nat) => D.int ((y : Nat) : Int)))) ?_ ?_ ?_ ?_
  · refine ⟨none, none, rfl, [0, 0], rfl, fun y t hy hd => ?_, rfl⟩
    cases hd with
    | z => rfl
    | o => rfl
    | nd => simp at hy; omega
  · exact fun _ _ _ _ => trivial
  · rintro pre d post τ G' e ⟨o2, o3, rfl, dl, dll, hdl, rfl⟩
    have hi : (T.map rowD)[pre.length]? = some d := by
      rw [e, List.getElem?_append_right (Nat.le_refl _), Nat.sub_self]; rfl
    rw [List.getElem?_map] at hi
    cases hq : T[pre.length]? with
    | none => rw [hq] at hi; cases hi
    | some q =>
      rw [hq] at hi
      cases hi
      have hl := (List.getElem?_eq_some_iff.mp hq).1
      obtain ⟨ql, qlt, _, _⟩ := ok.ok _ _ hq
      refine ⟨_, rfl, fun K hK => ?_⟩
      simp only [rowD_tup]
      walk_at "QS"
      refine ⟨⟨_, rfl⟩, fun c hc => ?_⟩
      have hf : (((q.map fun (y : Nat) => ((y : Nat) : Int)).map D.int).filterMap fun d => match d with | .int i => (dl[i.toNat]?).map fun (y : Nat) => D.int ((y : Nat) : Int) | _ => none) = ((q.map fun y => ((dl.getD y 0 : Nat) : Int)).map D.int) := by
        rw [List.map_map, List.map_map]
        refine fm_map fun z hz' => ?_
        have : z < dl.length := by have := qlt z hz'; omega
        simp [List.getElem?_eq_getElem this]
      refine lceach_pure (fun d => match d with | .int i => (dl[i.toNat]?).map fun (y : Nat) => D.int ((y : Nat) : Int) | _ => none) hc (fun _ _ => trivial) (fun d' hd' => ?_) ?_ ?_
      · refine ⟨_, rfl, fun G2 e2 Kt Kf hk => ?_⟩
        rw [List.map_map] at hd'
        obtain ⟨z, hz', rfl⟩ := List.mem_map.mp hd'
        have hzl : z < dl.length := by have := qlt z hz'; omega
        have hg : (dl.map fun (y : Nat) => D.int ((y : Nat) : Int))[z]? = some (.int ((dl[z] : Nat) : Int)) := by
          rw [List.getElem?_map, List.getElem?_eq_getElem hzl]; rfl
        simp only [Function.comp, Int.toNat_natCast, List.getElem?_eq_getElem hzl, Option.map_some] at hk
        simp only [Function.comp]
        walk_at "QS"
        simp only [e2 _ _ up_same]
        walk_at "QS"
        exact ⟨_, atI_nat hg, hk⟩
      · rw [hf]
        simp only [List.length_map]
        rw [ql]
        decide
      · rw [hf]
        walk_at "QS"
        refine ⟨_, rfl, by simp [ql], fun mx hm1 hm2 => ?_⟩
        rw [del_up hc]
        refine ⟨_, up_same, by simp; omega, hK _ _ ⟨_, _, rfl, dl ++ [1 + mx.toNat], by simp; omega, fun y t hy hd => ?_, ?_⟩⟩
        · by_cases hy2 : y < pre.length + 2
          · rw [List.getElem?_append_left (by omega)]
            exact hdl y t hy2 hd
          · have ey : y = pre.length + 2 := by simp at hy; omega
            subst ey
            rw [List.getElem?_append_right (by omega), dll, Nat.sub_self]
            cases hd with
            | @nd _ a b c d ta tb tc td hr' da db dc dd =>
              rw [hq] at hr'
              cases hr'
              have g : ∀ z tz, z ∈ [a, b, c, d] → Den T z tz → dl.getD z 0 = ht tz := fun z tz hz' hd' => by
                rw [List.getD_eq_getElem?_getD, hdl z tz (qlt z hz') hd']; rfl
              have ga := g a ta (by simp) da
              have gb := g b tb (by simp) db
              have gc := g c tc (by simp) dc
              have gd := g d td (by simp) dd
              simp only [List.map_cons, List.map_nil, ga, gb, gc, gd] at hm1 hm2
              simp only [List.mem_cons, List.not_mem_nil, or_false] at hm1 hm2
              have e1 := hm2 _ (.inl rfl)
              have e2 := hm2 _ (.inr (.inl rfl))
              have e3 := hm2 _ (.inr (.inr (.inl rfl)))
              have e4 := hm2 _ (.inr (.inr (.inr rfl)))
              show some (1 + mx.toNat) = some (1 + max (max (ht ta) (ht tb)) (max (ht tc) (ht td)))
              congr 1
              omega
        · rw [up_up, List.map_append]
          have : (1 : Int) + mx = ((1 + mx.toNat : Nat) : Int) := by
            have : 0 ≤ mx := by
              obtain ⟨z, hz', e⟩ := List.mem_map.mp hm1
              omega
            omega
          rw [this]
          rfl
  · rintro τ G' ⟨o2, o3, rfl, dl, dll, hdl, rfl⟩
    walk_at "QS"
    rw [List.length_map] at dll hdl
    exact cl_fin up_same hr (less_up hr) (k dl dll fun y t hd => hdl y t hd.lt hd)
def sp_is_telling : DSp := fun ds G Q _ => ∃ (n x : Nat) (T : Rws) (t : QT), ds = [tellD (n : Nat) x T] ∧ Canon n x T t ∧ n ≤ 12 ∧ T.length + 10 < sizeLine ∧ Q (.bl true) G
theorem enumD_at {ds : List D} {d : D} (h : d ∈ enumD ds) : ∃ (i : Nat) (e : D), ds[i]? = some e ∧ d = .tup [.int ((i : Nat) : Int), e] := by
  obtain ⟨i, hi⟩ := List.mem_iff_getElem?.mp h
  obtain ⟨e, he, hd⟩ := enumD_get hi
  exact ⟨i, e, he, hd⟩
theorem fm_const {α β : Type} {f : α → Option β} {b : β} : ∀ {l : List α}, (∀ z ∈ l, f z = some b) → l.filterMap f = List.replicate l.length b
  | [], _ => rfl
  | a :: as, k => by
    rw [List.filterMap_cons_some (k a List.mem_cons_self), fm_const fun z hz => k z (List.mem_cons_of_mem _ hz)]
    rfl
theorem b_is_telling {ds : List D} {G : DG} {Q : DQ} {E : DX} (h : sp_is_telling ds G Q E) : R_is_telling sp_is_size sp_is_row sp_is_number sp_depths_of { nx := fun _ G' => cl Q .non G', rt := cl Q } (startD 6 ds) G := by
  obtain ⟨n, x, T, t, rfl, c, hn, hz, k⟩ := h
  unfold R_is_telling
  simp only [tellD]
  walk_at "QS"
  simp only [tyD_tup, kit_tt]
  walk_at "QS"
  refine ⟨by decide, by decide, _, rfl, ?_⟩
  have c0 : decide (0 ≤ ((n : Nat) : Int) ∧ ((n : Nat) : Int) ≤ 12) = true := by rw [decide_eq_true_eq]; omega
  rw [c0]
  refine ⟨true, rfl, ?_⟩
  walk_at "QS"
  refine ⟨by decide, by decide, ?_⟩
  intro l hl
  have hf : (enumD (T.map rowD)).filterMap (fun _ => some (D.bl true)) = (List.replicate T.length true).map D.bl := by
    rw [fm_const (b := D.bl true) fun z hz => rfl, enumD_length, List.length_map, List.map_replicate]
  refine lceach_pure (fun _ => some (D.bl true)) hl (fun _ _ => trivial) (fun d hd => ?_) ?_ ?_
  · obtain ⟨i, e, he, rfl⟩ := enumD_at hd
    rw [List.getElem?_map] at he
    cases hq : T[i]? with
    | none => rw [hq] at he; cases he
    | some q =>
      rw [hq] at he
      cases he
      obtain ⟨ql, qlt, _, _⟩ := c.ok.ok _ _ hq
      refine ⟨_, rfl, fun G2 e2 Kt Kf hk => ?_⟩
      walk_at "QS"
      exact ⟨q, i, rfl, ql, qlt, hk⟩
  · rw [hf]
    simp
    omega
  · rw [hf]
    walk_at "QS"
    refine ⟨_, rfl, ?_⟩
    rw [del_up hl]
    have : (List.replicate T.length true).all id = true := by simp
    simp only [this]
    walk_at "QS"
    refine ⟨_, _, rfl, ?_⟩
    have c1 : decide (0 ≤ ((x : Nat) : Int) ∧ ((x : Nat) : Int) < (((T.map rowD).length : Nat) : Int) + 2) = true := by
      have := c.den.lt
      rw [decide_eq_true_eq, List.length_map]
      omega
    rw [c1]
    refine ⟨true, rfl, ?_⟩
    walk_at "QS"
    refine ⟨T, rfl, c.ok, hz, fun dl hdl hy => ?_⟩
    have := hy x t c.den
    have hg : (dl.map fun (y : Nat) => D.int ((y : Nat) : Int))[x]? = some (.int ((ht t : Nat) : Int)) := by
      rw [List.getElem?_map, this]; rfl
    walk_at "QS"
    refine ⟨_, atI_nat hg, ?_⟩
    walk_at "QS"
    have c2 : decide (((ht t : Nat) : Int) ≤ ((n : Nat) : Int)) = true := by
      have := c.ht
      rw [decide_eq_true_eq]
      omega
    rw [c2]
    exact cl_of k
def sp_one_of : DSp := fun ds G Q _ => ∃ (n x : Nat) (T : Rws) (t : QT), ds = [tellD (n : Nat) x T] ∧ Canon n x T t ∧ n ≤ 12 ∧ T.length + 10 < sizeLine ∧ Q (tellD (n : Nat) x T) G
theorem b_one_of {C : Addr} {ds : List D} {G : DG} {Q : DQ} {E : DX} (h : sp_one_of ds G Q E) : R_one_of C (sp_Rows_init C) (sp_Rows_take C) (sp_Rows_shape C 12) { nx := fun _ G' => cl Q .non G', rt := cl Q } (startD 3 ds) G := by
  obtain ⟨n, x, T, t, rfl, c, hn, hz, k⟩ := h
  unfold R_one_of
  walk_at "QS"
  intro p hp
  refine ⟨p, rfl, up_same, fun l m G1 hl hm h1 s1 => ⟨rfl, ?_⟩⟩
  have nlp : l ≠ p := fun e => by subst e; rw [up_same] at hl; cases hl
  have nmp : m ≠ p := fun e => by subst e; rw [up_same] at hm; cases hm
  rw [up_ne nlp] at hl
  rw [up_ne nmp] at hm
  walk_at "QS"
  refine ⟨_, h1.ins, lkt, p, l, m, _, x, T, rfl, h1, c.ok, c.den.lt, hz, fun G2 h2 s2 => ?_⟩
  walk_at "QS"
  refine ⟨_, h2.ins, lks, ?_⟩
  simp only [tellD]
  walk_at "QS"
  refine ⟨p, l, m, T, x, t, ((n : Nat) : Int), rfl, h2, c.ok, c.den, by have := c.ht; omega, hz, ?_⟩
  rw [c.tl]
  refine cl_less (fun a o e => ?_) k
  have np : a ≠ p := ne_new e hp
  have nl : a ≠ l := ne_new e hl
  have nm : a ≠ m := ne_new e hm
  rw [s2 a (by simp; exact ⟨nl, nm⟩), s1 a (by simp; exact ⟨np, nl, nm⟩), up_ne np]
  exact e
theorem tellD_nice (n : Int) (x : Nat) (T : Rws) : (tellD n x T).nice = true := by
  show (true && (true && ((D.tup (T.map rowD)).nice && true))) = true
  have : (D.tup (T.map rowD)).nice = true := nices_map (f := rowD) fun q _ => tupI_nice _
  rw [this]
  rfl
theorem tellD_dep (n : Int) (x : Nat) (T : Rws) : (tellD n x T).py.depth ≤ 4 := by
  have := deps_map (f := rowD) (n := 2) (xs := T) fun q _ => tupI_dep _
  simp only [tellD, D.py, D.pys, PyData.depth, PyData.depthAll]
  omega
def sp_is_shape : DSp := fun ds G Q _ => ∃ (n x : Nat) (T : Rws) (t : QT), ds = [tellD (n : Nat) x T] ∧ Canon n x T t ∧ n ≤ 12 ∧ T.length + 10 < sizeLine ∧ Q (.bl true) G
theorem b_is_shape {ds : List D} {G : DG} {Q : DQ} {E : DX} (h : sp_is_shape ds G Q E) : R_is_shape sp_is_telling sp_one_of { nx := fun _ G' => cl Q .non G', rt := cl Q } (startD 1 ds) G := by
  obtain ⟨n, x, T, t, rfl, c, hn, hz, k⟩ := h
  unfold R_is_shape
  walk_at "QS"
  refine ⟨n, x, T, t, rfl, c, hn, hz, true, rfl, ?_⟩
  walk_at "QS"
  refine ⟨n, x, T, t, rfl, c, hn, hz, ?_⟩
  have ok : okD (tellD ((n : Nat) : Int) x T) = true := okD_of (tellD_nice _ _ _) (by have := tellD_dep ((n : Nat) : Int) x T; omega)
  have ev : vD G (tellD ((n : Nat) : Int) x T) = tellD ((n : Nat) : Int) x T := rfl
  show okD (vD G _) = true ∧ okD (vD G _) = true ∧ cl Q (D.bl (deqv (vD G _) (vD G _))) G
  rw [ev, deqv_self (tellD_nice _ _ _)]
  exact ⟨ok, ok, cl_of k⟩
def sp_want_shape : DSp := fun ds G Q _ => ∃ (n x : Nat) (T : Rws) (t : QT), ds = [tellD (n : Nat) x T] ∧ Canon n x T t ∧ n ≤ 12 ∧ T.length + 10 < sizeLine ∧ Q .non G
theorem b_want_shape {ds : List D} {G : DG} {Q : DQ} {E : DX} (h : sp_want_shape ds G Q E) : R_want_shape sp_is_shape { nx := fun _ G' => cl Q .non G', rt := cl Q } (startD 1 ds) G := by
  obtain ⟨n, x, T, t, rfl, c, hn, hz, k⟩ := h
  unfold R_want_shape
  walk_at "QS"
  refine ⟨n, x, T, t, rfl, c, hn, hz, true, rfl, ?_⟩
  walk_at "QS"
  exact cl_of k
/-! ### the law's own numbers -/
theorem szl {n : Nat} (h : n ≤ 1000000) : n < sizeLine := Nat.lt_of_le_of_lt h (by decide)
theorem sze {n : Nat} (h : n ≤ 1000000) : n ≤ sizeLine := Nat.le_of_lt (szl h)
theorem cmulL {a b : Int} (h1 : -(2 ^ 64) < a) (h2 : a < 2 ^ 64) : CMul a b := .inl ⟨h1, h2⟩
theorem cmulR {a b : Int} (h1 : -(2 ^ 64) < b) (h2 : b < 2 ^ 64) : CMul a b := .inr ⟨h1, h2⟩
def sp_law_at : DSp := fun ds G Q _ => ∃ (ns : List Int) (k : Int), ds = [.scr (ns.map D.int), .int k] ∧ 0 ≤ k ∧ ∀ x, Q (.int x) G
theorem b_law_at {ds : List D} {G : DG} {Q : DQ} {E : DX} (h : sp_law_at ds G Q E) : R_law_at { nx := fun _ G' => cl Q .non G', rt := cl Q } (startD 2 ds) G := by
  obtain ⟨ns, k, rfl, h0, q⟩ := h
  unfold R_law_at
  walk_at "QT"
  by_cases c : k < ((ns.map D.int).length : Nat)
  · simp only [c]
    walk_at "QT"
    obtain ⟨j, rfl⟩ := Int.eq_ofNat_of_zero_le h0
    have hj : j < ns.length := by simp at c; omega
    exact ⟨.int ns[j], atI_nat (by simp [hj]), cl_of (q _)⟩
  · simp only [c]
    walk_at "QT"
    exact cl_of (q _)
def sp_law_mixed : DSp := fun ds G Q _ => ∃ n k : Int, ds = [.int n, .int k] ∧ 0 ≤ k ∧ k < 2 ^ 40 ∧ ∀ x, 1 ≤ x → Q (.int x) G
theorem b_law_mixed {ds : List D} {G : DG} {Q : DQ} {E : DX} (h : sp_law_mixed ds G Q E) : R_law_mixed { nx := fun _ G' => cl Q .non G', rt := cl Q } (startD 2 ds) G := by
  obtain ⟨n, k, rfl, h0, h1, q⟩ := h
  unfold R_law_mixed
  walk_at "QT"
  have e1 : 0 ≤ (n % 2147483629 + 48271 * (k + 1)) % 2147483629 := Int.emod_nonneg _ (by decide)
  have e2 : (n % 2147483629 + 48271 * (k + 1)) % 2147483629 < 2147483629 := Int.emod_lt_of_pos _ (by decide)
  refine ⟨by decide, cmulL (by decide) (by decide), by decide, cmulL (by omega) (by omega), cmulL (by decide) (by decide), cmulL (by decide) (by decide), by decide, cl_of (q _ ?_)⟩
  have := Int.emod_nonneg ((n % 2147483629 + 48271 * (k + 1)) % 2147483629 * ((n % 2147483629 + 48271 * (k + 1)) % 2147483629) + 39373 * ((n % 2147483629 + 48271 * (k + 1)) % 2147483629) + 7 * k) (b := 2147483629) (by decide)
  omega
def sp_law_row : DSp := fun ds G Q _ => ∃ (ns : List Int) (k many base : Int), ds = [.scr (ns.map D.int), .int k, .int many, .int base] ∧ 0 ≤ k ∧ k < 2 ^ 20 ∧ 0 ≤ many ∧ many ≤ 1000 ∧ 0 < base ∧ base < 2 ^ 20 ∧
  ∀ xs : List Int, xs.length = many.toNat → (∀ x ∈ xs, 0 ≤ x ∧ x < base) → Q (.lst (xs.map D.int)) G
theorem b_law_row {ds : List D} {G : DG} {Q : DQ} {E : DX} (h : sp_law_row ds G Q E) : R_law_row sp_law_at sp_law_mixed { nx := fun _ G' => cl Q .non G', rt := cl Q } (startD 7 ds) G := by
  obtain ⟨ns, k, many, base, rfl, h0, h1, h2, h3, h4, h5, q⟩ := h
  unfold R_law_row
  walk_at "QT"
  refine ⟨ns, k, rfl, h0, fun x => ?_⟩
  walk_at "QT"
  refine ⟨by unfold CPow; decide, fun l hl => ?_⟩
  refine ⟨⟨by decide, by decide, by omega, by omega⟩, ?_⟩
  refine feach_inv (fun pre τ G' => ∃ left o6, τ = [some (.scr (ns.map D.int)), some (.int k), some (.int many), some (.int base), some (.int left), some (.ref l), o6] ∧ ∃ xs : List Int, xs.length = pre.length ∧ (∀ x ∈ xs, 0 ≤ x ∧ x < base) ∧ G' = up G l (.lst (xs.map D.int))) ?_ ?_ ?_ ?_
  · exact ⟨_, none, rfl, [], rfl, fun x hx => (by cases hx), rfl⟩
  · exact fun _ _ _ _ => trivial
  · rintro pre d post τ G' e ⟨left, o6, rfl, xs, xl, xb, rfl⟩
    have hd : d ∈ rangeD 0 many.toNat := by rw [e]; simp
    unfold rangeD at hd
    obtain ⟨i, hi, rfl⟩ := List.mem_map.mp hd
    have hi : i < many.toNat := List.mem_range.mp hi
    have pl : pre.length < many.toNat := by
      have := congrArg List.length e
      rw [rangeD_length] at this
      simp at this
      omega
    refine ⟨_, rfl, fun K hK => ?_⟩
    walk_at "QT"
    have fin : ∀ y : Int, 0 < base ∧ CDiv y base ∧ True → 0 < base ∧ (xs.map D.int).length < sizeLine ∧ CDiv y base ∧ K [some (.scr (ns.map D.int)), some (.int k), some (.int many), some (.int base), some (.int (y / base)), some (.ref l), some (.int (0 + (i : Nat)))] (up G l (.lst (xs.map D.int ++ [.int (y % base)]))) := fun y hy => by
      refine ⟨h4, szl (by simp; omega), hy.2.1, hK _ _ ⟨_, _, rfl, xs ++ [y % base], by simp [xl], fun x hx => ?_, by rw [List.map_append]; rfl⟩⟩
      rcases List.mem_append.mp hx with hx | hx
      · exact xb x hx
      · rw [List.mem_singleton.mp hx]
        exact ⟨Int.emod_nonneg _ (by omega), Int.emod_lt_of_pos _ h4⟩
    by_cases c : left < 1
    · simp only [c]
      walk_at "QT"
      refine ⟨ns, k, rfl, h0, fun x1 => ⟨by decide, ns, _, rfl, ?_, fun x2 => ?_⟩⟩
      · have := Int.emod_nonneg (0 + ((i : Nat) : Int)) (b := 40) (by decide)
        omega
      · walk_at "QT"
        refine ⟨cmulL (by decide) (by decide), cmulL (by decide) (by decide), _, _, rfl, by omega, by omega, fun x3 hx3 => ?_⟩
        walk_at "QT"
        exact ⟨⟨_, rfl⟩, fin x3 ⟨h4, ⟨h4, by omega⟩, trivial⟩⟩
    · simp only [c]
      walk_at "QT"
      exact ⟨⟨_, rfl⟩, fin left ⟨h4, ⟨h4, by omega⟩, trivial⟩⟩
  · rintro τ G' ⟨left, o6, rfl, xs, xl, xb, rfl⟩
    walk_at "QT"
    rw [rangeD_length] at xl
    exact cl_fin up_same hl (less_up hl) (q xs xl xb)
/-! ### cells -/
abbrev Cell := Int × Int
def cellD (p : Cell) : D := tupI [p.1, p.2]
theorem cellD_nice (p : Cell) : (cellD p).nice = true := rfl
theorem cellD_dep (p : Cell) : (cellD p).py.depth ≤ 2 := tupI_dep _
theorem cells_nice (cs : List Cell) : (D.lst (cs.map cellD)).nice = true := nices_map fun p _ => cellD_nice p
theorem cells_okD (cs : List Cell) : okD (.lst (cs.map cellD)) = true := okD_of (cells_nice cs) (by
  have := deps_map (f := cellD) (n := 2) (xs := cs) fun p _ => cellD_dep p
  simp only [D.py, PyData.depth]
  omega)
theorem deqv_nil (ds : List D) : deqv (.lst ds) (.lst []) = decide (ds = []) := by
  cases ds <;> rfl
structure IsBounds (cs : List Cell) (a b c d : Int) : Prop where
  a1 : ∃ p ∈ cs, p.1 = a
  a2 : ∀ p ∈ cs, a ≤ p.1
  b1 : ∃ p ∈ cs, p.2 = b
  b2 : ∀ p ∈ cs, b ≤ p.2
  c1 : ∃ p ∈ cs, p.1 = c
  c2 : ∀ p ∈ cs, p.1 ≤ c
  d1 : ∃ p ∈ cs, p.2 = d
  d2 : ∀ p ∈ cs, p.2 ≤ d
def sp_law_bounds : DSp := fun ds G Q _ => ∃ cs : List Cell, ds = [.lst (cs.map cellD)] ∧ cs.length ≤ 1000 ∧ (cs = [] → Q .non G) ∧ ∀ a b c d, IsBounds cs a b c d → Q (tupI [a, b, c, d]) G
theorem cellD_eq (p : Cell) : cellD p = .tup [.int p.1, .int p.2] := rfl
theorem b_law_bounds {ds : List D} {G : DG} {Q : DQ} {E : DX} (h : sp_law_bounds ds G Q E) : R_law_bounds { nx := fun _ G' => cl Q .non G', rt := cl Q } (startD 5 ds) G := by
  obtain ⟨cs, rfl, hz, q0, q1⟩ := h
  unfold R_law_bounds
  walk_at "QT"
  refine ⟨cells_okD cs, by decide +kernel, ?_⟩
  simp only [deqv_nil, vD_lst]
  by_cases c : cs = []
  · subst c
    simp only [List.map_nil]
    walk_at "QT"
    exact cl_of (q0 rfl)
  · have c' : ¬ cs.map cellD = [] := by simpa using c
    simp only [c']
    walk_at "QT"
    have f1 : (cs.map cellD).filterMap (fun d => match d with | .tup [x, y] => some x | _ => none) = (cs.map (·.1)).map D.int := by
      rw [List.map_map]
      exact fm_map fun p _ => rfl
    have f2 : (cs.map cellD).filterMap (fun d => match d with | .tup [x, y] => some y | _ => none) = (cs.map (·.2)).map D.int := by
      rw [List.map_map]
      exact fm_map fun p _ => rfl
    intro l hl
    refine lceach_pure (fun d => match d with | .tup [x, y] => some x | _ => none) hl (fun _ _ => trivial) (fun d hd => ?_) ?_ ?_
    · obtain ⟨p, hp, rfl⟩ := List.mem_map.mp hd
      refine ⟨_, rfl, fun G2 e2 Kt Kf hk => ?_⟩
      walk_at "QT"
      exact hk
    · rw [f1]
      exact sze (by simp; omega)
    rw [f1]
    walk_at "QT"
    rw [del_up hl]
    walk_at "QT"
    intro l2 hl2
    refine lceach_pure (fun d => match d with | .tup [x, y] => some y | _ => none) hl2 (fun _ _ => trivial) (fun d hd => ?_) ?_ ?_
    · obtain ⟨p, hp, rfl⟩ := List.mem_map.mp hd
      refine ⟨_, rfl, fun G2 e2 Kt Kf hk => ?_⟩
      walk_at "QT"
      exact hk
    · rw [f2]
      exact sze (by simp; omega)
    rw [f2]
    walk_at "QT"
    rw [del_up hl2]
    have pos : 0 < cs.length := by cases cs with
      | nil => exact absurd rfl c
      | cons => simp
    refine ⟨_, rfl, by simpa using pos, fun a a1 a2 => ⟨_, rfl, by simpa using pos, fun b b1 b2 => ⟨_, rfl, by simpa using pos, fun c c1 c2 => ⟨_, rfl, by simpa using pos, fun d d1 d2 => ?_⟩⟩⟩⟩
    refine cl_of (q1 a b c d ?_)
    obtain ⟨pa, ma, rfl⟩ := List.mem_map.mp a1
    obtain ⟨pb, mb, rfl⟩ := List.mem_map.mp b1
    obtain ⟨pc, mc, rfl⟩ := List.mem_map.mp c1
    obtain ⟨pd, md, rfl⟩ := List.mem_map.mp d1
    exact ⟨⟨pa, ma, rfl⟩, fun p hp => a2 _ (List.mem_map.mpr ⟨p, hp, rfl⟩), ⟨pb, mb, rfl⟩, fun p hp => b2 _ (List.mem_map.mpr ⟨p, hp, rfl⟩), ⟨pc, mc, rfl⟩, fun p hp => c2 _ (List.mem_map.mpr ⟨p, hp, rfl⟩), ⟨pd, md, rfl⟩, fun p hp => d2 _ (List.mem_map.mpr ⟨p, hp, rfl⟩)⟩
def rangeI (lo hi : Int) : List Int := (List.range (hi - lo).toNat).map fun (i : Nat) => lo + (i : Int)
theorem rangeD_I (lo hi : Int) : rangeD lo (hi - lo).toNat = (rangeI lo hi).map D.int := by
  unfold rangeD rangeI
  rw [List.map_map]
  rfl
theorem mem_rangeI {lo hi x : Int} : x ∈ rangeI lo hi ↔ lo ≤ x ∧ x < hi := by
  unfold rangeI
  rw [List.mem_map]
  constructor
  · rintro ⟨i, hi, rfl⟩
    rw [List.mem_range] at hi
    omega
  · rintro ⟨h1, h2⟩
    exact ⟨(x - lo).toNat, by rw [List.mem_range]; omega, by omega⟩
theorem rangeI_length (lo hi : Int) : (rangeI lo hi).length = (hi - lo).toNat := by simp [rangeI]
def movesL (a b c d side : Int) : List (List Int) := (rangeI (-a) (side - c)).flatMap fun dn => (rangeI (-b) (side - d)).map fun rt => [dn, rt]
theorem sum_const {α : Type} (n : Nat) : ∀ l : List α, (l.map fun _ => n).sum = l.length * n
  | [] => by simp
  | a :: as => by rw [List.map_cons, List.sum_cons, sum_const n as, List.length_cons, Nat.succ_mul]; omega
theorem movesL_len (a b c d side : Int) : (movesL a b c d side).length = (side - c - -a).toNat * (side - d - -b).toNat := by
  unfold movesL
  rw [List.length_flatMap]
  simp only [List.length_map, sum_const, rangeI_length]
def sp_law_moves : DSp := fun ds G Q _ => ∃ (cs : List Cell) (side : Int), ds = [.lst (cs.map cellD), .int side] ∧ cs.length ≤ 1000 ∧ 0 ≤ side ∧ side ≤ 128 ∧ (∀ p ∈ cs, 0 ≤ p.1 ∧ p.1 < side ∧ 0 ≤ p.2 ∧ p.2 < side) ∧ (cs = [] → Q (.lst [tupI [0, 0]]) G) ∧ ∀ a b c d, IsBounds cs a b c d → Q (.lst ((movesL a b c d side).map tupI)) G
theorem b_law_moves {ds : List D} {G : DG} {Q : DQ} {E : DX} (h : sp_law_moves ds G Q E) : R_law_moves sp_law_bounds { nx := fun _ G' => cl Q .non G', rt := cl Q } (startD 6 ds) G := by
  obtain ⟨cs, side, rfl, hz, s0, s1, hr, q0, q1⟩ := h
  unfold R_law_moves
  walk_at "QT"
  refine ⟨cs, rfl, hz, fun e => ?_, fun a b c d hb => ?_⟩
  · walk_at "QT"
    exact cl_of (q0 e)
  · simp only [tupI]
    walk_at "QT"
    intro l hl
    obtain ⟨pa, ma, ea⟩ := hb.a1
    obtain ⟨pb, mb, eb⟩ := hb.b1
    obtain ⟨pc, mc, ec⟩ := hb.c1
    obtain ⟨pd, md, ed⟩ := hb.d1
    have ra := hr pa ma
    have rb := hr pb mb
    have rc := hr pc mc
    have rd := hr pd md
    have hac : a ≤ c := by have := hb.c2 pa ma; omega
    have hbd : b ≤ d := by have := hb.d2 pb mb; omega
    refine ⟨⟨by omega, by omega, by omega, by omega⟩, ?_⟩
    rw [rangeD_I]
    refine feach_inv (fun pre τ G' => ∃ o4, τ = [some (.lst (cs.map cellD)), some (.int side), some (.tup [.int a, .int b, .int c, .int d]), some (.ref l), o4, none] ∧ ∃ ps : List Int, pre = ps.map D.int ∧ G' = up G l (.lst ((ps.flatMap fun dn => (rangeI (-b) (side - d)).map fun rt => [dn, rt]).map tupI))) ?_ ?_ ?_ ?_
    · exact ⟨none, rfl, [], rfl, rfl⟩
    · exact fun _ _ _ _ => trivial
    · rintro pre x post τ G' e ⟨o4, rfl, ps, rfl, rfl⟩
      have hx : x ∈ (rangeI (-a) (side - c)).map D.int := by rw [e]; simp
      obtain ⟨dn, hdn, rfl⟩ := List.mem_map.mp hx
      have pl : ps.length < (side - c - -a).toNat := by
        have := congrArg List.length e
        rw [List.length_map, rangeI_length] at this
        simp at this
        omega
      refine ⟨_, rfl, fun K hK => ?_⟩
      walk_at "QT"
      refine ⟨⟨_, rfl⟩, ⟨by omega, by omega, by omega, by omega⟩, fun l2 hl2 => ?_⟩
      rw [rangeD_I]
      have f1 : ((rangeI (-b) (side - d)).map D.int).filterMap (fun x => match x with | .int rt => some (tupI [dn, rt]) | _ => none) = ((rangeI (-b) (side - d)).map fun rt => [dn, rt]).map tupI := by
        rw [List.map_map]
        exact fm_map fun p _ => rfl
      refine lceach_pure (fun x => match x with | .int rt => some (tupI [dn, rt]) | _ => none) hl2 (fun _ _ => trivial) (fun y hy => ?_) ?_ ?_
      · obtain ⟨rt, hrt, rfl⟩ := List.mem_map.mp hy
        refine ⟨_, rfl, fun G2 e2 Kt Kf hk => ?_⟩
        walk_at "QT"
        exact hk
      · rw [f1]
        exact sze (by simp [rangeI_length]; omega)
      rw [f1]
      walk_at "QT"
      rw [del_up hl2]
      have big : ((ps.flatMap fun dn => (rangeI (-b) (side - d)).map fun rt => [dn, rt]).map tupI).length ≤ 128 * 128 := by
        rw [List.length_map, List.length_flatMap]
        simp only [List.length_map, rangeI_length, sum_const]
        have h1 : ps.length ≤ 128 := by omega
        have h2 : (side - d - -b).toNat ≤ 128 := by omega
        exact Nat.mul_le_mul h1 h2
      refine ⟨_, up_same, ?_, hK _ _ ⟨_, rfl, ps ++ [dn], by simp, ?_⟩⟩
      · have : (((rangeI (-b) (side - d)).map fun rt => [dn, rt]).map tupI).length ≤ 128 := by simp [rangeI_length]; omega
        exact Nat.le_trans (Nat.add_le_add big this) (by decide)
      · rw [up_up, List.flatMap_append, List.map_append]
        congr 2
        simp
    · rintro τ G' ⟨o4, rfl, ps, e, rfl⟩
      walk_at "QT"
      have : ps = rangeI (-a) (side - c) := by
        have := congrArg (List.map fun x => match x with | .int i => i | _ => 0) e
        simpa [List.map_map, Function.comp_def] using this.symm
      subst this
      exact cl_fin up_same hl (less_up hl) (q1 a b c d hb)
def sp_law_moved : DSp := fun ds G Q _ => ∃ (cs : List Cell) (dn rt : Int), ds = [.lst (cs.map cellD), tupI [dn, rt]] ∧ cs.length ≤ 1000 ∧ Q (.lst ((cs.map fun p => ((p.1 + dn, p.2 + rt) : Cell)).map cellD)) G
theorem b_law_moved {ds : List D} {G : DG} {Q : DQ} {E : DX} (h : sp_law_moved ds G Q E) : R_law_moved { nx := fun _ G' => cl Q .non G', rt := cl Q } (startD 4 ds) G := by
  obtain ⟨cs, dn, rt, rfl, hz, q⟩ := h
  unfold R_law_moved
  simp only [tupI]
  walk_at "QT"
  intro l hl
  have f1 : (cs.map cellD).filterMap (fun x => match x with | .tup [.int i, .int j] => some (cellD (i + dn, j + rt)) | _ => none) = (cs.map fun p => ((p.1 + dn, p.2 + rt) : Cell)).map cellD := by
    rw [List.map_map]
    exact fm_map fun p _ => rfl
  refine lceach_pure (fun x => match x with | .tup [.int i, .int j] => some (cellD (i + dn, j + rt)) | _ => none) hl (fun _ _ => trivial) (fun y hy => ?_) ?_ ?_
  · obtain ⟨p, hp, rfl⟩ := List.mem_map.mp hy
    refine ⟨_, rfl, fun G2 e2 Kt Kf hk => ?_⟩
    walk_at "QT"
    exact hk
  · rw [f1]
    exact sze (by simp; omega)
  rw [f1]
  walk_at "QT"
  rw [del_up hl]
  exact cl_of q
/-! ### dicts with tuples of ints as keys -/
theorem nodup_le {α : Type} [DecidableEq α] : ∀ (l m : List α), l.Nodup → (∀ x ∈ l, x ∈ m) → l.length ≤ m.length
  | [], _, _, _ => Nat.zero_le _
  | x :: l, m, hn, hs => by
    obtain ⟨h1, h2⟩ := List.nodup_cons.mp hn
    have hx : x ∈ m := hs x List.mem_cons_self
    have ih := nodup_le l (m.erase x) h2 fun y hy => by
      have hne : y ≠ x := fun e => h1 (e ▸ hy)
      exact (List.mem_erase_of_ne hne).2 (hs y (List.mem_cons_of_mem _ hy))
    have e := List.length_erase_of_mem hx
    have hp : 0 < m.length := List.length_pos_of_mem hx
    rw [List.length_cons]
    omega
theorem dgetT {t : List Int} : ∀ {kvs : List (D × D)} {ts : List (List Int)}, kvs.map (·.1) = ts.map tupI → (dgetL kvs (tupI t)).isSome = decide (t ∈ ts)
  | [], [], _ => rfl
  | [], _ :: _, h => by simp at h
  | _ :: _, [], h => by simp at h
  | (k, v) :: kvs, s :: ts, h => by
    simp only [List.map_cons, List.cons.injEq] at h
    obtain ⟨h1, h2⟩ := h
    subst h1
    have ih := dgetT (t := t) h2
    unfold dgetL at ih ⊢
    rw [List.find?_cons]
    by_cases e : s = t
    · subst e
      simp
    · have : decide ((tupI s).norm = (tupI t).norm) = false := decide_eq_false fun z => e ((norm_tupI _ _).mp z)
      simp only [this]
      rw [ih]
      have e' : ¬ t = s := fun z => e z.symm
      simp [e']
theorem dputT {t : List Int} {v : D} {kvs : List (D × D)} {ts : List (List Int)} (h : kvs.map (·.1) = ts.map tupI) : (dputL kvs (tupI t) v).map (·.1) = (if t ∈ ts then ts else ts ++ [t]).map tupI := by
  unfold dputL
  rw [dgetT h]
  by_cases e : t ∈ ts
  · simp only [e, decide_true, if_true]
    rw [← h, List.map_map]
    apply List.map_congr_left
    intro p _
    simp only [Function.comp]
    split <;> rfl
  · simp only [e, decide_false, if_false, Bool.false_eq_true]
    rw [List.map_append, h, List.map_append]
    rfl
/-- a dict of cells within side -/
def CellDict (side : Int) (kvs : List (D × D)) : Prop := ∃ cs : List Cell, kvs.map (·.1) = cs.map cellD ∧ cs.Nodup ∧ ∀ p ∈ cs, 0 ≤ p.1 ∧ p.1 < side ∧ 0 ≤ p.2 ∧ p.2 < side
def cellL (p : Cell) : List Int := [p.1, p.2]
theorem cellL_inj {p q : Cell} (h : cellL p = cellL q) : p = q := by
  simp only [cellL, List.cons.injEq, and_true] at h
  exact Prod.ext h.1 h.2
theorem cells_tupI (cs : List Cell) : cs.map cellD = (cs.map cellL).map tupI := by rw [List.map_map]; rfl
theorem mem_cellL {cs : List Cell} {p : Cell} : cellL p ∈ cs.map cellL ↔ p ∈ cs := by
  rw [List.mem_map]
  exact ⟨fun ⟨q, h, e⟩ => cellL_inj e ▸ h, fun h => ⟨p, h, rfl⟩⟩
def allCells (side : Int) : List Cell := (rangeI 0 side).flatMap fun r => (rangeI 0 side).map fun c => (r, c)
theorem mem_allCells {side : Int} {p : Cell} : p ∈ allCells side ↔ 0 ≤ p.1 ∧ p.1 < side ∧ 0 ≤ p.2 ∧ p.2 < side := by
  unfold allCells
  rw [List.mem_flatMap]
  constructor
  · rintro ⟨r, hr, h⟩
    obtain ⟨c, hc, rfl⟩ := List.mem_map.mp h
    rw [mem_rangeI] at hr hc
    exact ⟨hr.1, hr.2, hc.1, hc.2⟩
  · rintro ⟨h1, h2, h3, h4⟩
    exact ⟨p.1, mem_rangeI.mpr ⟨h1, h2⟩, List.mem_map.mpr ⟨p.2, mem_rangeI.mpr ⟨h3, h4⟩, rfl⟩⟩
theorem allCells_len (side : Int) : (allCells side).length = side.toNat * side.toNat := by
  unfold allCells
  rw [List.length_flatMap]
  simp only [List.length_map, sum_const, rangeI_length, Int.sub_zero]
theorem cells_len {side : Int} {cs : List Cell} (hn : cs.Nodup) (hr : ∀ p ∈ cs, 0 ≤ p.1 ∧ p.1 < side ∧ 0 ≤ p.2 ∧ p.2 < side) : cs.length ≤ side.toNat * side.toNat := by
  have := nodup_le cs (allCells side) hn fun p hp => mem_allCells.mpr (hr p hp)
  rw [allCells_len] at this
  exact this
theorem CellDict.put {side : Int} {kvs : List (D × D)} (h : CellDict side kvs) {p : Cell} (hp : 0 ≤ p.1 ∧ p.1 < side ∧ 0 ≤ p.2 ∧ p.2 < side) (v : D) : CellDict side (dputL kvs (cellD p) v) := by
  obtain ⟨cs, h1, h2, h3⟩ := h
  rw [cells_tupI] at h1
  have := dputT (t := cellL p) (v := v) h1
  by_cases e : p ∈ cs
  · rw [if_pos (mem_cellL.mpr e), ← cells_tupI] at this
    exact ⟨cs, this, h2, h3⟩
  · rw [if_neg (fun z => e (mem_cellL.mp z))] at this
    refine ⟨cs ++ [p], ?_, ?_, ?_⟩
    · rw [cells_tupI, List.map_append]
      exact this
    · rw [List.nodup_append]
      exact ⟨h2, by simp, fun a ha b hb z => by simp at hb; subst hb; subst z; exact e ha⟩
    · intro q hq
      rcases List.mem_append.mp hq with hq | hq
      · exact h3 q hq
      · rw [List.mem_singleton.mp hq]; exact hp
theorem CellDict.len {side : Int} {kvs : List (D × D)} (h : CellDict side kvs) (hs : side ≤ 128) : kvs.length ≤ 16384 := by
  obtain ⟨cs, h1, h2, h3⟩ := h
  have e := congrArg List.length h1
  rw [List.length_map, List.length_map] at e
  have := cells_len h2 h3
  have h5 : side.toNat ≤ 128 := by omega
  have := Nat.mul_le_mul h5 h5
  omega
theorem isN_cellD (p : Cell) : isN (cellD p) = true := isN_tupI _
def sp_law_boxed : DSp := fun ds G Q _ => ∃ (bs : List (Int × Int × Int × Int)) (side : Int), ds = [.lst (bs.map fun b => tupI [b.1, b.2.1, b.2.2.1, b.2.2.2])] ∧ side ≤ 128 ∧ (∀ b ∈ bs, 0 ≤ b.1 ∧ 0 ≤ b.2.1 ∧ 0 ≤ b.2.2.1 ∧ 0 ≤ b.2.2.2 ∧ b.1 + b.2.2.1 ≤ side ∧ b.2.1 + b.2.2.2 ≤ side) ∧
  ∀ a kvs, G a = none → CellDict side kvs → Q (.ref a) (up G a (.dn kvs))
theorem b_law_boxed {ds : List D} {G : DG} {Q : DQ} {E : DX} (h : sp_law_boxed ds G Q E) : R_law_boxed { nx := fun _ G' => cl Q .non G', rt := cl Q } (startD 8 ds) G := by
  obtain ⟨bs, side, rfl, hs, hb, q⟩ := h
  unfold R_law_boxed
  walk_at "QT"
  intro a ha
  refine feach_inv (fun pre τ G' => ∃ o2 o3 o4 o5 o6 o7, τ = [some (.lst (bs.map fun b => tupI [b.1, b.2.1, b.2.2.1, b.2.2.2])), some (.ref a), o2, o3, o4, o5, o6, o7] ∧ ∃ kvs, CellDict side kvs ∧ G' = up G a (.dn kvs)) ?_ ?_ ?_ ?_
  · exact ⟨none, none, none, none, none, none, rfl, [], ⟨[], rfl, List.nodup_nil, fun p hp => by cases hp⟩, rfl⟩
  · exact fun _ _ _ _ => trivial
  · rintro pre d post τ G' e ⟨o2, o3, o4, o5, o6, o7, rfl, kvs, hk, rfl⟩
    have hd : d ∈ bs.map fun b => tupI [b.1, b.2.1, b.2.2.1, b.2.2.2] := by rw [e]; simp
    obtain ⟨⟨r, c, hh, ww⟩, hm, rfl⟩ := List.mem_map.mp hd
    obtain ⟨b1, b2, b3, b4, b5, b6⟩ := hb _ hm
    simp only at b1 b2 b3 b4 b5 b6
    refine ⟨_, rfl, fun K hK => ?_⟩
    walk_at "QT"
    refine ⟨⟨by omega, by omega, by omega, by omega⟩, ?_⟩
    rw [rangeD_I]
    refine feach_inv (fun pre τ G' => ∃ o6 o7, τ = [some (.lst (bs.map fun b => tupI [b.1, b.2.1, b.2.2.1, b.2.2.2])), some (.ref a), some (.int r), some (.int c), some (.int hh), some (.int ww), o6, o7] ∧ ∃ kvs, CellDict side kvs ∧ G' = up G a (.dn kvs)) ?_ ?_ ?_ ?_
    · exact ⟨_, _, rfl, kvs, hk, rfl⟩
    · exact fun _ _ _ _ => trivial
    · rintro pre2 d2 post2 τ G' e2 ⟨o6, o7, rfl, kvs, hk, rfl⟩
      have hd2 : d2 ∈ (rangeI r (r + hh)).map D.int := by rw [e2]; simp
      obtain ⟨y, hy, rfl⟩ := List.mem_map.mp hd2
      rw [mem_rangeI] at hy
      refine ⟨_, rfl, fun K2 hK2 => ?_⟩
      walk_at "QT"
      refine ⟨⟨by omega, by omega, by omega, by omega⟩, ?_⟩
      rw [rangeD_I]
      refine feach_inv (fun pre τ G' => ∃ o7, τ = [some (.lst (bs.map fun b => tupI [b.1, b.2.1, b.2.2.1, b.2.2.2])), some (.ref a), some (.int r), some (.int c), some (.int hh), some (.int ww), some (.int y), o7] ∧ ∃ kvs, CellDict side kvs ∧ G' = up G a (.dn kvs)) ?_ ?_ ?_ ?_
      · exact ⟨_, rfl, kvs, hk, rfl⟩
      · exact fun _ _ _ _ => trivial
      · rintro pre3 d3 post3 τ G' e3 ⟨o7, rfl, kvs, hk, rfl⟩
        have hd3 : d3 ∈ (rangeI c (c + ww)).map D.int := by rw [e3]; simp
        obtain ⟨z, hz, rfl⟩ := List.mem_map.mp hd3
        rw [mem_rangeI] at hz
        refine ⟨_, rfl, fun K3 hK3 => ?_⟩
        walk_at "QT"
        have hl := hk.len hs
        refine ⟨_, putO_dn (isN_cellD (y, z)) (szl (by omega)), hK3 _ _ ⟨_, rfl, _, hk.put (p := (y, z)) ⟨by omega, by omega, by omega, by omega⟩ (.bl true), rfl⟩⟩
      · rintro τ G' ⟨o7, rfl, kvs, hk, rfl⟩
        exact hK2 _ _ ⟨_, _, rfl, kvs, hk, rfl⟩
    · rintro τ G' ⟨o6, o7, rfl, kvs, hk, rfl⟩
      exact hK _ _ ⟨_, _, _, _, _, _, rfl, kvs, hk, rfl⟩
  · rintro τ G' ⟨o2, o3, o4, o5, o6, o7, rfl, kvs, hk, rfl⟩
    walk_at "QT"
    exact cl_of (q a kvs ha hk)
abbrev Box := Int × Int × Int × Int
def boxD (b : Box) : D := tupI [b.1, b.2.1, b.2.2.1, b.2.2.2]
def BoxIn (side : Int) (b : Box) : Prop := 0 ≤ b.1 ∧ 0 ≤ b.2.1 ∧ 0 ≤ b.2.2.1 ∧ 0 ≤ b.2.2.2 ∧ b.1 + b.2.2.1 ≤ side ∧ b.2.1 + b.2.2.2 ≤ side
theorem rs4 : ∀ m : Fin 9, Builtin.Range.small 0 (4 * (m.1 : Int)) 4 = true ∧ Builtin.Range.rangeSize 0 (4 * (m.1 : Int)) 4 = m.1 := by decide +kernel
theorem rs3 : ∀ m : Fin 9, Builtin.Range.small 0 (3 * (m.1 : Int)) 3 = true ∧ Builtin.Range.rangeSize 0 (3 * (m.1 : Int)) 3 = m.1 := by decide +kernel
theorem mem_rangeC {a c : Int} {n : Nat} {d : D} (h : d ∈ rangeC a c n) : ∃ i : Nat, i < n ∧ d = .int (a + (i : Int) * c) := by
  unfold rangeC at h
  obtain ⟨i, hi, rfl⟩ := List.mem_map.mp h
  exact ⟨i, List.mem_range.mp hi, rfl⟩
theorem cutD_four {xs : List Int} {i : Nat} (h : 4 * i + 4 ≤ xs.length) : cutD (xs.map D.int) (some ((0 : Int) + (i : Int) * 4)) (some ((0 : Int) + (i : Int) * 4 + 4)) = [.int (xs.getD (4 * i) 0), .int (xs.getD (4 * i + 1) 0), .int (xs.getD (4 * i + 2) 0), .int (xs.getD (4 * i + 3) 0)] := by
  have e1 : HT.sIx (xs.map D.int).length 0 (some ((0 : Int) + (i : Int) * 4)) = 4 * i := by
    rw [List.length_map]
    unfold HT.sIx
    simp only
    split <;> omega
  have e2 : HT.sIx (xs.map D.int).length (xs.map D.int).length (some ((0 : Int) + (i : Int) * 4 + 4)) = 4 * i + 4 := by
    rw [List.length_map]
    unfold HT.sIx
    simp only
    split <;> omega
  unfold cutD
  rw [e1, e2]
  apply List.ext_getElem?
  intro j
  rw [List.getElem?_take]
  have e3 : 4 * i + 4 - 4 * i = 4 := by omega
  rw [e3]
  by_cases hj : j < 4
  · rw [if_pos hj, List.getElem?_drop, List.getElem?_map]
    have : j = 0 ∨ j = 1 ∨ j = 2 ∨ j = 3 := by omega
    rcases this with e | e | e | e <;> subst e <;> simp [List.getD_eq_getElem?_getD, List.getElem?_eq_getElem (show 4 * i < xs.length by omega), List.getElem?_eq_getElem (show 4 * i + 1 < xs.length by omega), List.getElem?_eq_getElem (show 4 * i + 2 < xs.length by omega), List.getElem?_eq_getElem (show 4 * i + 3 < xs.length by omega)]
  · rw [if_neg hj]
    rw [List.getElem?_eq_none (by simp; omega)]
def sp_law_boxes : DSp := fun ds G Q _ => ∃ (ns : List Int) (k side many : Int), ds = [.scr (ns.map D.int), .int k, .int side, .int many] ∧ 0 ≤ k ∧ k < 2 ^ 20 ∧ 0 < side ∧ side ≤ 128 ∧ 0 ≤ many ∧ many ≤ 8 ∧ ∀ bs : List Box, (∀ b ∈ bs, BoxIn side b) → Q (.lst (bs.map boxD)) G
theorem getD_in {xs : List Int} {base : Int} (h : ∀ x ∈ xs, 0 ≤ x ∧ x < base) {i : Nat} (hi : i < xs.length) : 0 ≤ xs.getD i 0 ∧ xs.getD i 0 < base := by
  rw [List.getD_eq_getElem?_getD, List.getElem?_eq_getElem hi]
  exact h _ (List.getElem_mem hi)
theorem b_law_boxes {ds : List D} {G : DG} {Q : DQ} {E : DX} (h : sp_law_boxes ds G Q E) : R_law_boxes sp_law_row { nx := fun _ G' => cl Q .non G', rt := cl Q } (startD 11 ds) G := by
  obtain ⟨ns, k, side, many, rfl, h0, h1, s0, s1, m0, m1, q⟩ := h
  unfold R_law_boxes
  walk_at "QT"
  refine ⟨cmulL (by decide) (by decide), ns, k, 4 * many, side, rfl, h0, h1, by omega, by omega, s0, by omega, fun xs xl xb => ?_⟩
  walk_at "QT"
  intro l hl
  obtain ⟨mn, rfl⟩ := Int.eq_ofNat_of_zero_le m0
  have r4 := rs4 ⟨mn, by omega⟩
  refine ⟨cmulL (by decide) (by decide), mn, ⟨by decide, by decide, r4.1, r4.2⟩, ?_⟩
  refine feach_inv (fun pre τ G' => ∃ o6 o7 o8 o9 o10, τ = [some (.scr (ns.map D.int)), some (.int k), some (.int side), some (.int ((mn : Nat) : Int)), some (.lst (xs.map D.int)), some (.ref l), o6, o7, o8, o9, o10] ∧ ∃ bs : List Box, bs.length = pre.length ∧ (∀ b ∈ bs, BoxIn side b) ∧ G' = up G l (.lst (bs.map boxD))) ?_ ?_ ?_ ?_
  · exact ⟨none, none, none, none, none, rfl, [], rfl, (fun b hb => by cases hb), rfl⟩
  · exact fun _ _ _ _ => trivial
  · rintro pre d post τ G' e ⟨o6, o7, o8, o9, o10, rfl, bs, bl, hb, rfl⟩
    have hd : d ∈ rangeC 0 4 mn := by rw [e]; simp
    obtain ⟨i, hi, rfl⟩ := mem_rangeC hd
    have pl : pre.length < mn := by
      have := congrArg List.length e
      rw [rangeC_length] at this
      simp at this
      omega
    have x0 := getD_in xb (i := 4 * i) (by omega)
    have x1 := getD_in xb (i := 4 * i + 1) (by omega)
    have x2 := getD_in xb (i := 4 * i + 2) (by omega)
    have x3 := getD_in xb (i := 4 * i + 3) (by omega)
    refine ⟨_, rfl, fun K hK => ?_⟩
    walk_at "QT"
    simp only [cutD_four (xs := xs) (i := i) (by omega)]
    walk_at "QT"
    generalize xs.getD (4 * i) 0 = a at *
    generalize xs.getD (4 * i + 1) 0 = b at *
    generalize xs.getD (4 * i + 2) 0 = c at *
    generalize xs.getD (4 * i + 3) 0 = d at *
    have y0 := Int.emod_nonneg c (b := side - a) (by omega)
    have y1 := Int.emod_lt_of_pos c (b := side - a) (by omega)
    have y2 := Int.emod_nonneg d (b := side - b) (by omega)
    have y3 := Int.emod_lt_of_pos d (b := side - b) (by omega)
    refine ⟨fun _ => by simp, ⟨_, rfl⟩, by omega, by omega, szl (by simp; omega), hK _ _ ⟨_, _, _, _, _, rfl, bs ++ [(a, b, 1 + c % (side - a), 1 + d % (side - b))], by simp [bl], fun b' hb' => ?_, ?_⟩⟩
    · rcases List.mem_append.mp hb' with h | h
      · exact hb _ h
      · rw [List.mem_singleton.mp h]
        exact ⟨by simp only; omega, by simp only; omega, by simp only; omega, by simp only; omega, by simp only; omega, by simp only; omega⟩
    · rw [List.map_append]; rfl
  · rintro τ G' ⟨o6, o7, o8, o9, o10, rfl, bs, bl, hb, rfl⟩
    walk_at "QT"
    exact cl_fin up_same hl (less_up hl) (q bs hb)
def sp_law_squares : DSp := fun ds G Q _ => ∃ (ns : List Int) (k : Int) (n : Nat) (many : Int), ds = [.scr (ns.map D.int), .int k, .int ((n : Nat) : Int), .int many] ∧ 0 ≤ k ∧ k < 2 ^ 20 ∧ n ≤ 7 ∧ 0 ≤ many ∧ many ≤ 8 ∧ ∀ bs : List Box, (∀ b ∈ bs, BoxIn ((2 : Int) ^ n) b) → Q (.lst (bs.map boxD)) G
theorem pow_split {a b : Nat} (h : a ≤ b) : (2 : Int) ^ b = 2 ^ a * 2 ^ (b - a) := by
  rw [← Int.pow_add]
  congr 1
  omega
theorem pow_pos' (n : Nat) : (0 : Int) < 2 ^ n := Int.pow_pos (by decide)
theorem pow_le_pow' {a b : Nat} (h : a ≤ b) : (2 : Int) ^ a ≤ 2 ^ b := by
  rw [pow_split h]
  have h1 := pow_pos' a
  have h2 := pow_pos' (b - a)
  calc (2 : Int) ^ a = 2 ^ a * 1 := (Int.mul_one _).symm
    _ ≤ 2 ^ a * 2 ^ (b - a) := Int.mul_le_mul_of_nonneg_left (by omega) (by omega)
/-- a place of its size within -/
theorem square_in {x : Int} {s n : Nat} (h : s ≤ n) (h0 : 0 ≤ x) (h1 : x < 2 ^ n) : 0 ≤ x / 2 ^ s * 2 ^ s ∧ x / 2 ^ s * 2 ^ s + 2 ^ s ≤ 2 ^ n := by
  have p := pow_pos' s
  have p2 := pow_pos' (n - s)
  have q0 : 0 ≤ x / 2 ^ s := Int.ediv_nonneg h0 (by omega)
  refine ⟨Int.mul_nonneg q0 (by omega), ?_⟩
  have q1 : x / 2 ^ s < 2 ^ (n - s) := by
    apply Int.ediv_lt_of_lt_mul p
    rw [Int.mul_comm, ← pow_split h]
    exact h1
  have : (x / 2 ^ s + 1) * 2 ^ s ≤ 2 ^ (n - s) * 2 ^ s := Int.mul_le_mul_of_nonneg_right (by omega) (by omega)
  rw [Int.add_mul, Int.one_mul] at this
  rw [pow_split h, Int.mul_comm (2 ^ s)]
  exact this
theorem b_law_squares {ds : List D} {G : DG} {Q : DQ} {E : DX} (h : sp_law_squares ds G Q E) : R_law_squares sp_law_row { nx := fun _ G' => cl Q .non G', rt := cl Q } (startD 8 ds) G := by
  obtain ⟨ns, k, n, many, rfl, h0, h1, n1, m0, m1, q⟩ := h
  unfold R_law_squares
  walk_at "QT"
  have hp : (1 : Int) * 2 ^ (((n : Nat) : Int).toNat) = 2 ^ n := by rw [Int.one_mul, Int.toNat_natCast]
  have hn7 := pow_le_pow' n1
  have hnp := pow_pos' n
  refine ⟨cmulL (by decide) (by decide), ⟨by omega, by omega, by decide⟩, ns, k, 3 * many, _, rfl, h0, h1, by omega, by omega, by rw [hp]; exact hnp, by rw [hp]; omega, fun xs xl xb => ?_⟩
  rw [hp] at xb
  walk_at "QT"
  intro l hl
  obtain ⟨mn, rfl⟩ := Int.eq_ofNat_of_zero_le m0
  have r3 := rs3 ⟨mn, by omega⟩
  refine ⟨cmulL (by decide) (by decide), mn, ⟨by decide, by decide, r3.1, r3.2⟩, ?_⟩
  refine feach_inv (fun pre τ G' => ∃ o6 o7, τ = [some (.scr (ns.map D.int)), some (.int k), some (.int ((n : Nat) : Int)), some (.int ((mn : Nat) : Int)), some (.lst (xs.map D.int)), some (.ref l), o6, o7] ∧ ∃ bs : List Box, bs.length = pre.length ∧ (∀ b ∈ bs, BoxIn (2 ^ n) b) ∧ G' = up G l (.lst (bs.map boxD))) ?_ ?_ ?_ ?_
  · exact ⟨none, none, rfl, [], rfl, (fun b hb => by cases hb), rfl⟩
  · exact fun _ _ _ _ => trivial
  · rintro pre d post τ G' e ⟨o6, o7, rfl, bs, bl, hb, rfl⟩
    have hd : d ∈ rangeC 0 3 mn := by rw [e]; simp
    obtain ⟨i, hi, rfl⟩ := mem_rangeC hd
    have pl : pre.length < mn := by
      have := congrArg List.length e
      rw [rangeC_length] at this
      simp at this
      omega
    have x0 := getD_in xb (i := 3 * i) (by omega)
    have x1 := getD_in xb (i := 3 * i + 1) (by omega)
    have x2 := getD_in xb (i := 3 * i + 2) (by omega)
    have ga : ∀ j, j < 3 → atI (xs.map D.int) (0 + ((i : Nat) : Int) * 3 + ((j : Nat) : Int)) = some (.int (xs.getD (3 * i + j) 0)) := fun j hj => by
      have e : (0 + ((i : Nat) : Int) * 3 + ((j : Nat) : Int)) = ((3 * i + j : Nat) : Int) := by omega
      rw [e]
      refine atI_nat ?_
      rw [List.getElem?_map, List.getElem?_eq_getElem (by omega), List.getD_eq_getElem?_getD, List.getElem?_eq_getElem (by omega)]
      rfl
    have g0 := ga 0 (by omega)
    have g1 := ga 1 (by omega)
    have g2 := ga 2 (by omega)
    simp only [Int.ofNat_zero, Int.add_zero, Nat.add_zero] at g0
    refine ⟨_, rfl, fun K hK => ?_⟩
    walk_at "QT"
    rw [g0]
    walk_at "QT"
    generalize xs.getD (3 * i) 0 = s at *
    have s0 := Int.emod_nonneg s (b := ((n : Nat) : Int) + 1) (by omega)
    have s1 := Int.emod_lt_of_pos s (b := ((n : Nat) : Int) + 1) (by omega)
    obtain ⟨t, ht⟩ := Int.eq_ofNat_of_zero_le s0
    rw [ht] at s1 ⊢
    have hpt : (1 : Int) * 2 ^ (((t : Nat) : Int).toNat) = 2 ^ t := by rw [Int.one_mul, Int.toNat_natCast]
    rw [hpt]
    have tn : t ≤ n := by omega
    have t7 := pow_le_pow' (show t ≤ 7 by omega)
    have tp := pow_pos' t
    have z1 := square_in tn x1.1 x1.2
    have z2 := square_in tn x2.1 x2.2
    refine ⟨by omega, ⟨by omega, by omega, by decide⟩, ⟨_, rfl⟩, _, g1, _, rfl, ⟨tp, by omega⟩, cmulR (by omega) (by omega), _, g2, _, rfl, ⟨tp, by omega⟩, cmulR (by omega) (by omega), szl (by simp; omega), hK _ _ ⟨_, _, rfl, bs ++ [(xs.getD (3 * i + 1) 0 / 2 ^ t * 2 ^ t, xs.getD (3 * i + 2) 0 / 2 ^ t * 2 ^ t, 2 ^ t, 2 ^ t)], by simp [bl], fun b' hb' => ?_, ?_⟩⟩
    · rcases List.mem_append.mp hb' with h | h
      · exact hb _ h
      · rw [List.mem_singleton.mp h]
        exact ⟨z1.1, z2.1, by simp only; omega, by simp only; omega, z1.2, z2.2⟩
    · rw [List.map_append]; rfl
  · rintro τ G' ⟨o6, o7, rfl, bs, bl, hb, rfl⟩
    walk_at "QT"
    exact cl_fin up_same hl (less_up hl) (q bs hb)
def sp_law_cells : DSp := fun ds G Q _ => ∃ (ns : List Int) (k : Int) (n : Nat), ds = [.scr (ns.map D.int), .int k, .int ((n : Nat) : Int)] ∧ 0 ≤ k ∧ k < 2 ^ 19 ∧ n ≤ 4 ∧ ∀ cs : List Cell, cs.Nodup → (∀ p ∈ cs, 0 ≤ p.1 ∧ p.1 < 2 ^ n ∧ 0 ≤ p.2 ∧ p.2 < 2 ^ n) → Q (.lst (cs.map cellD)) G
theorem nodup_fm {α β : Type} {f : α → Option β} (hf : ∀ a b c, f a = some c → f b = some c → a = b) : ∀ {l : List α}, l.Nodup → (l.filterMap f).Nodup
  | [], _ => List.nodup_nil
  | a :: l, h => by
    obtain ⟨h1, h2⟩ := List.nodup_cons.mp h
    cases e : f a with
    | none => rw [List.filterMap_cons_none e]; exact nodup_fm hf h2
    | some c =>
      rw [List.filterMap_cons_some e, List.nodup_cons]
      refine ⟨fun g => ?_, nodup_fm hf h2⟩
      obtain ⟨b, hb, eb⟩ := List.mem_filterMap.mp g
      rw [hf a b c e eb] at h1
      exact h1 hb
theorem fm_dec {α β γ : Type} {f : β → Option γ} {g : α → β} {h : α → Option δ} {k : δ → γ} : ∀ {l : List α}, (∀ z ∈ l, f (g z) = (h z).map k) → (l.map g).filterMap f = (l.filterMap h).map k
  | [], _ => rfl
  | a :: as, q => by
    have e := q a List.mem_cons_self
    have ih := fm_dec (l := as) (f := f) (g := g) (h := h) (k := k) fun z hz => q z (List.mem_cons_of_mem _ hz)
    cases eh : h a with
    | none =>
      rw [eh] at e
      rw [List.map_cons, List.filterMap_cons_none e, List.filterMap_cons_none eh, ih]
    | some c =>
      rw [eh] at e
      rw [List.map_cons, List.filterMap_cons_some e, List.filterMap_cons_some eh, ih, List.map_cons]
theorem boxes_map (bs : List Box) : (bs.map fun b => tupI [b.1, b.2.1, b.2.2.1, b.2.2.2]) = bs.map boxD := rfl
theorem b_law_cells {ds : List D} {G : DG} {Q : DQ} {E : DX} (h : sp_law_cells ds G Q E) : R_law_cells sp_law_row sp_law_boxed sp_law_boxes sp_law_squares { nx := fun _ G' => cl Q .non G', rt := cl Q } (startD 8 ds) G := by
  obtain ⟨ns, k, n, rfl, h0, h1, n4, q⟩ := h
  unfold R_law_cells
  walk_at "QT"
  have hp : (1 : Int) * 2 ^ (((n : Nat) : Int).toNat) = 2 ^ n := by rw [Int.one_mul, Int.toNat_natCast]
  have hnp := pow_pos' n
  have hn4 := pow_le_pow' n4
  rw [hp]
  refine ⟨⟨by omega, by omega, by decide⟩, ns, k, 2, 8, rfl, h0, by omega, by omega, by omega, by omega, by omega, fun xs xl xb => ?_⟩
  walk_at "QT"
  match xs, xl, xb with
  | [way, many], _, xb =>
    have w0 := xb way (by simp)
    have w1 := xb many (by simp)
    walk_at "QT"
    refine ⟨fun _ => by simp, ?_⟩
    have sqq : (2 : Int) ^ n * 2 ^ n ≤ 256 := by
      have := Int.mul_le_mul hn4 hn4 (by omega) (by decide)
      exact this
    have sq0 : 0 < (2 : Int) ^ n * 2 ^ n := Int.mul_pos hnp hnp
    have endD : ∀ l : Addr, ∀ kvs, G l = none → CellDict (2 ^ n) kvs → ∃ ts : List (List Int), ∃ d : Nat, kvs.map (·.1) = ts.map tupI ∧ (∀ t ∈ ts, t.length = d + 1) ∧ ∀ us : List (List Int), us.Perm ts → us.Pairwise (fun a b => lexL b a = false) → cl Q (.lst (us.map tupI)) (up G l (.dn kvs)) := fun l kvs hl ⟨cs, c1, c2, c3⟩ => by
      refine ⟨cs.map cellL, 1, by rw [c1, cells_tupI], fun t ht => ?_, fun us hu _ => ?_⟩
      · obtain ⟨p, _, rfl⟩ := List.mem_map.mp ht
        rfl
      · have key : ∀ us : List (List Int), (∀ u ∈ us, u ∈ cs.map cellL) → ∃ es : List Cell, us = es.map cellL ∧ ∀ p ∈ es, p ∈ cs := fun us => by
          induction us with
          | nil => intro _; exact ⟨[], rfl, fun p hp => by cases hp⟩
          | cons u us ih =>
            intro h
            obtain ⟨p, hp, e⟩ := List.mem_map.mp (h u List.mem_cons_self)
            obtain ⟨es, e2, h2⟩ := ih fun v hv => h v (List.mem_cons_of_mem _ hv)
            exact ⟨p :: es, by rw [List.map_cons, e, e2], fun x hx => by
              rcases List.mem_cons.mp hx with hx | hx
              · rw [hx]; exact hp
              · exact h2 x hx⟩
        obtain ⟨es, e1, e2⟩ := key us fun u hu' => hu.mem_iff.mp hu'
        have nd : es.Nodup := by
          have : us.Nodup := hu.nodup_iff.mpr (by
            rw [List.nodup_iff_pairwise_ne, List.pairwise_map]
            exact (List.nodup_iff_pairwise_ne.mp c2).imp fun h e => h (cellL_inj e))
          rw [e1, List.nodup_iff_pairwise_ne, List.pairwise_map] at this
          rw [List.nodup_iff_pairwise_ne]
          exact this.imp fun h e => h (by rw [e])
        rw [e1, ← cells_tupI]
        exact cl_less (less_up hl) (q es nd fun p hp => c3 p (e2 p hp))
    by_cases c3 : way < 3
    · simp only [c3]
      walk_at "QT"
      refine ⟨cmulL (by omega) (by omega), ns, k + 1, _, 2, rfl, by omega, by omega, by omega, by omega, by omega, by omega, fun ys yl yb => ?_⟩
      walk_at "QT"
      refine ⟨cmulL (by omega) (by omega), ⟨by omega, by omega, by omega, by omega⟩, fun l hl => ?_⟩
      let h : Nat → Option Cell := fun i => if ys[i]? = some 1 then some ((i : Int) / 2 ^ n, (i : Int) % 2 ^ n) else none
      let f : D → Option D := fun d => match d with | .int j => (h j.toNat).map cellD | _ => none
      have hf : (rangeD 0 ((2 : Int) ^ n * 2 ^ n).toNat).filterMap f = ((List.range ((2 : Int) ^ n * 2 ^ n).toNat).filterMap h).map cellD := by
        unfold rangeD
        refine fm_dec fun z _ => ?_
        show (h (0 + (z : Int)).toNat).map cellD = _
        rw [Int.zero_add, Int.toNat_natCast]
      have hmem : ∀ p ∈ (List.range ((2 : Int) ^ n * 2 ^ n).toNat).filterMap h, 0 ≤ p.1 ∧ p.1 < 2 ^ n ∧ 0 ≤ p.2 ∧ p.2 < 2 ^ n := fun p hp' => by
        obtain ⟨i, hi, e⟩ := List.mem_filterMap.mp hp'
        rw [List.mem_range] at hi
        simp only [h] at e
        split at e
        · cases e
          exact ⟨Int.ediv_nonneg (by omega) (by omega), Int.ediv_lt_of_lt_mul hnp (by omega), Int.emod_nonneg _ (by omega), Int.emod_lt_of_pos _ hnp⟩
        · cases e
      have hnd : ((List.range ((2 : Int) ^ n * 2 ^ n).toNat).filterMap h).Nodup := by
        refine nodup_fm (fun a b c ea eb => ?_) List.nodup_range
        simp only [h] at ea eb
        split at ea
        · split at eb
          · cases ea
            have e := Option.some.inj eb
            have e1 : ((b : Nat) : Int) / 2 ^ n = ((a : Nat) : Int) / 2 ^ n := congrArg Prod.fst e
            have e2 : ((b : Nat) : Int) % 2 ^ n = ((a : Nat) : Int) % 2 ^ n := congrArg Prod.snd e
            have k1 := Int.emod_add_mul_ediv ((a : Nat) : Int) (2 ^ n)
            have k2 := Int.emod_add_mul_ediv ((b : Nat) : Int) (2 ^ n)
            rw [e1, e2] at k2
            omega
          · cases eb
        · cases ea
      have hlen := cells_len hnd hmem
      refine lceach_pure f hl (fun _ _ => trivial) (fun d hd => ?_) ?_ ?_
      · unfold rangeD at hd
        obtain ⟨i, hi, rfl⟩ := List.mem_map.mp hd
        rw [List.mem_range] at hi
        refine ⟨_, rfl, fun G2 e2 Kt Kf hk => ?_⟩
        have hil : i < ys.length := by rw [yl]; exact hi
        have hg : atI (ys.map D.int) (0 + ((i : Nat) : Int)) = some (.int ys[i]) := by
          rw [Int.zero_add]
          exact atI_nat (by rw [List.getElem?_map, List.getElem?_eq_getElem hil]; rfl)
        walk_at "QT"
        rw [hg]
        walk_at "QT"
        have hk' : (match (h i).map cellD with | some y => Kt y G2 | none => Kf G2) := by
          have e0 : f (.int (0 + ((i : Nat) : Int))) = (h i).map cellD := by
            show (h (0 + (i : Int)).toNat).map cellD = _
            rw [Int.zero_add, Int.toNat_natCast]
          rw [← e0]
          exact hk
        simp only [h, List.getElem?_eq_getElem hil, Option.some.injEq] at hk'
        by_cases c1 : ys[i] = 1
        · simp only [c1, if_true] at hk' ⊢
          walk_at "QT"
          rw [Int.zero_add]
          exact ⟨⟨hnp, by omega⟩, hnp, hk'⟩
        · simp only [c1, if_false] at hk' ⊢
          walk_at "QT"
          exact hk'
      · rw [hf, List.length_map]
        have h5 : ((2 : Int) ^ n).toNat ≤ 16 := by omega
        have := Nat.mul_le_mul h5 h5
        exact sze (by omega)
      · rw [hf]
        walk_at "QT"
        rw [del_up hl]
        exact cl_of (q _ hnd hmem)
    · simp only [c3]
      walk_at "QT"
      by_cases c6 : way < 6
      · simp only [c6]
        walk_at "QT"
        refine ⟨ns, k + 1, 2 ^ n, many, rfl, by omega, by omega, hnp, by omega, w1.1, by omega, fun bs hb => ?_⟩
        walk_at "QT"
        refine ⟨bs, 2 ^ n, rfl, by omega, hb, fun a kvs ha hk => ?_⟩
        walk_at "QT"
        obtain ⟨ts, d, e1, e2, e3⟩ := endD a kvs ha hk
        exact ⟨ts, e1, ⟨d, e2⟩, e3⟩
      · simp only [c6]
        walk_at "QT"
        refine ⟨ns, k + 1, n, many, rfl, by omega, by omega, by omega, w1.1, by omega, fun bs hb => ?_⟩
        walk_at "QT"
        refine ⟨bs, 2 ^ n, rfl, by omega, hb, fun a kvs ha hk => ?_⟩
        walk_at "QT"
        obtain ⟨ts, d, e1, e2, e3⟩ := endD a kvs ha hk
        exact ⟨ts, e1, ⟨d, e2⟩, e3⟩
/-! ### the shape of cells -/
def full : Nat → (Int → Int → Bool) → QT
  | 0, f => .lf (f 0 0)
  | k + 1, f => .nd (full k f) (full k fun r c => f r (c + 2 ^ k)) (full k fun r c => f (r + 2 ^ k) c) (full k fun r c => f (r + 2 ^ k) (c + 2 ^ k))
theorem nnum_len (q : List Nat) (R : Rws) : (nnum q R).2.length ≤ R.length + 1 := by
  unfold nnum
  split
  · exact Nat.le_succ _
  · split
    · exact Nat.le_succ _
    · split
      · exact Nat.le_succ _
      · simp
theorem full_len : ∀ (k : Nat) (f : Int → Int → Bool) (R : Rws), (tell (full k f) R).2.length + 1 ≤ R.length + 4 ^ k
  | 0, f, R => by show R.length + 1 ≤ R.length + 1; omega
  | k + 1, f, R => by
    have h1 := full_len k f R
    have h2 := full_len k (fun r c => f r (c + 2 ^ k)) (tell (full k f) R).2
    have h3 := full_len k (fun r c => f (r + 2 ^ k) c) (tell (full k fun r c => f r (c + 2 ^ k)) (tell (full k f) R).2).2
    have h4 := full_len k (fun r c => f (r + 2 ^ k) (c + 2 ^ k)) (tell (full k fun r c => f (r + 2 ^ k) c) (tell (full k fun r c => f r (c + 2 ^ k)) (tell (full k f) R).2).2).2
    unfold full tell
    refine Nat.le_trans (Nat.succ_le_succ (nnum_len _ _)) ?_
    rw [Nat.pow_succ]
    omega
theorem full_congr : ∀ (k : Nat) {f g : Int → Int → Bool}, (∀ r c, f r c = g r c) → full k f = full k g := fun k f g h => by
  have : f = g := funext fun r => funext fun c => h r c
  rw [this]
theorem full_ht : ∀ (k : Nat) (f : Int → Int → Bool), ht (full k f) = k
  | 0, _ => rfl
  | k + 1, f => by
    unfold full
    show 1 + max (max _ _) (max _ _) = k + 1
    rw [full_ht, full_ht, full_ht, full_ht]
    omega
/-- rows in a list at l, their numbers in a dict at m -/
structure NumAt (l m : Addr) (R : Rws) (G : DG) : Prop where
  lst : G l = some (.lst (R.map rowD))
  dct : G m = some (.dn (numsD R))
theorem NumAt.ne {l m : Addr} {R : Rws} {G : DG} (h : NumAt l m R G) : l ≠ m := ne_kind h.lst h.dct (by simp)
def sp_law_number (n : Nat) : DSp := fun ds G Q _ => ∃ (f : Addr) (kvs : List (D × D)) (l m : Addr) (R : Rws) (row col : Int) (k : Nat) (cell : Int → Int → Bool), ds = [.ref f, .ref l, .ref m, .tup [.int row, .int col, .int (2 ^ k)]] ∧ k ≤ n ∧ G f = some (.dn kvs) ∧ f ≠ m ∧ NumAt l m R G ∧ R.length + 4 ^ k ≤ 100000 ∧ k ≤ 12 ∧ (∀ r c, (dgetL kvs (tupI [r, c])).isSome = cell r c) ∧
  ∀ G', NumAt l m (tell (full k fun r c => cell (row + r) (col + c)) R).2 G' → SameBut [l, m] G G' → Q (.int (((tell (full k fun r c => cell (row + r) (col + c)) R).1 : Nat) : Int)) G'
theorem b_law_number {n : Nat} {so : DSp} (hso : ∀ j, n = j + 1 → so = sp_law_number j) {ds : List D} {G : DG} {Q : DQ} {E : DX} (h : sp_law_number n ds G Q E) : R_law_number so { nx := fun _ G' => cl Q .non G', rt := cl Q } (startD 11 ds) G := by
  obtain ⟨f, kvs, l, m, R, row, col, k, cell, rfl, hk, hf, nfm, h, hz, k12, hc, q⟩ := h
  unfold R_law_number
  walk_at "QT"
  cases k with
  | zero =>
    simp only [Int.pow_zero]
    walk_at "QT"
    have hd := dkv_dn hf (isN_cellD (row, col))
    refine ⟨kvs, hd, ?_⟩
    have e : (dgetL kvs (.tup [.int row, .int col])).isSome = cell row col := hc row col
    rw [e]
    have := q G h (SameBut.refl _ _)
    simp only [full, tell, Int.add_zero] at this
    cases hcc : cell row col
    · rw [hcc] at this
      exact cl_of this
    · rw [hcc] at this
      exact cl_of this
  | succ k =>
    have hp := pow_pos' k
    have e2 : (2 : Int) ^ (k + 1) = 2 ^ k * 2 := Int.pow_succ ..
    have ne1 : ¬ (2 : Int) ^ (k + 1) = 1 := by omega
    have half : (2 : Int) ^ (k + 1) / 2 = 2 ^ k := by omega
    simp only [ne1]
    walk_at "QT"
    refine ⟨⟨by decide, by decide⟩, fun a ha => ⟨⟨by decide, by decide, by decide, by decide⟩, ?_⟩⟩
    have e4 : rangeD 0 (4 : Int).toNat = [.int 0, .int 1, .int 2, .int 3] := rfl
    rw [e4, half]
    simp only [feach]
    walk_at "QT"
    obtain ⟨j, rfl⟩ : ∃ j, n = j + 1 := ⟨n - 1, by omega⟩
    rw [hso j rfl]
    have nfa : f ≠ a := ne_new hf ha
    have nla : l ≠ a := ne_new h.lst ha
    have nma : m ≠ a := ne_new h.dct ha
    have nfl : f ≠ l := ne_kind hf h.lst (by simp)
    have k12' := pow_le_pow' (show k ≤ 12 by omega)
    have kc : ∀ z : Int, CMul (2 ^ k) z := fun z => cmulL (by omega) (by omega)
    rw [Nat.pow_succ] at hz
    -- a turn
    have turn : ∀ (R0 : Rws) (acc : List Nat) (G1 : DG) (dr dc : Int) (t : QT) (K : DQ), NumAt l m R0 G1 → SameBut [l, m, a] G G1 → R0.length + 4 ^ k ≤ 100000 → t = full k (fun r c => cell (row + dr + r) (col + dc + c)) →
        (∀ G2, NumAt l m (tell t R0).2 G2 → SameBut [l, m, a] G G2 → G2 a = G1 a → K (.int (((tell t R0).1 : Nat) : Int)) G2) →
        sp_law_number j [.ref f, .ref l, .ref m, .tup [.int (row + dr), .int (col + dc), .int (2 ^ k)]] G1 K dx0 := fun R0 acc G1 dr dc t K hn hs hl ht hK => by
      refine ⟨f, kvs, l, m, R0, _, _, k, cell, rfl, by omega, by rw [hs f (by simp; exact ⟨nfl, nfm, nfa⟩)]; exact hf, nfm, hn, hl, by omega, hc, fun G2 h2 s2 => ?_⟩
      rw [← ht] at h2 ⊢
      refine hK G2 h2 (fun b hb => ?_) (s2 a (by simp; exact ⟨nla.symm, nma.symm⟩))
      simp only [List.mem_cons, List.not_mem_nil, or_false, not_or] at hb
      rw [s2 b (by simp; exact ⟨hb.1, hb.2.1⟩)]
      exact hs b (by simp; exact hb)
    have upN : ∀ {R0 : Rws} {G1 : DG} {o : DO}, NumAt l m R0 G1 → NumAt l m R0 (up G1 a o) := fun hn => ⟨by rw [up_ne nla]; exact hn.lst, by rw [up_ne nma]; exact hn.dct⟩
    have upS : ∀ {G1 : DG} {o : DO}, SameBut [l, m, a] G G1 → SameBut [l, m, a] G (up G1 a o) := fun hs => hs.trans (SameBut.up (by simp))
    generalize hg : (fun (r c : Int) => cell (row + r) (col + c)) = g at q
    have t1 : full k g = full k (fun r c => cell (row + 2 ^ k * (0 / 2) + r) (col + 2 ^ k * (0 % 2) + c)) := by
      rw [← hg]
      refine full_congr k fun r c => ?_
      simp
    have t2 : (full k fun r c => g r (c + 2 ^ k)) = full k (fun r c => cell (row + 2 ^ k * (1 / 2) + r) (col + 2 ^ k * (1 % 2) + c)) := by
      rw [← hg]
      refine full_congr k fun r c => ?_
      show cell (row + r) (col + (c + 2 ^ k)) = cell (row + 2 ^ k * 0 + r) (col + 2 ^ k * 1 + c)
      congr 1 <;> omega
    have t3 : (full k fun r c => g (r + 2 ^ k) c) = full k (fun r c => cell (row + 2 ^ k * (2 / 2) + r) (col + 2 ^ k * (2 % 2) + c)) := by
      rw [← hg]
      refine full_congr k fun r c => ?_
      show cell (row + (r + 2 ^ k)) (col + c) = cell (row + 2 ^ k * 1 + r) (col + 2 ^ k * 0 + c)
      congr 1 <;> omega
    have t4 : (full k fun r c => g (r + 2 ^ k) (c + 2 ^ k)) = full k (fun r c => cell (row + 2 ^ k * (3 / 2) + r) (col + 2 ^ k * (3 % 2) + c)) := by
      rw [← hg]
      refine full_congr k fun r c => ?_
      show cell (row + (r + 2 ^ k)) (col + (c + 2 ^ k)) = cell (row + 2 ^ k * 1 + r) (col + 2 ^ k * 1 + c)
      congr 1 <;> omega
    have l1 := full_len k g R
    have l2 := full_len k (fun r c => g r (c + 2 ^ k)) (tell (full k g) R).2
    have l3 := full_len k (fun r c => g (r + 2 ^ k) c) (tell (full k fun r c => g r (c + 2 ^ k)) (tell (full k g) R).2).2
    have l4 := full_len k (fun r c => g (r + 2 ^ k) (c + 2 ^ k)) (tell (full k fun r c => g (r + 2 ^ k) c) (tell (full k fun r c => g r (c + 2 ^ k)) (tell (full k g) R).2).2).2
    have qe : tell (full (k + 1) g) R = nnum [(tell (full k g) R).1, (tell (full k fun r c => g r (c + 2 ^ k)) (tell (full k g) R).2).1, (tell (full k fun r c => g (r + 2 ^ k) c) (tell (full k fun r c => g r (c + 2 ^ k)) (tell (full k g) R).2).2).1, (tell (full k fun r c => g (r + 2 ^ k) (c + 2 ^ k)) (tell (full k fun r c => g (r + 2 ^ k) c) (tell (full k fun r c => g r (c + 2 ^ k)) (tell (full k g) R).2).2).2).1] (tell (full k fun r c => g (r + 2 ^ k) (c + 2 ^ k)) (tell (full k fun r c => g (r + 2 ^ k) c) (tell (full k fun r c => g r (c + 2 ^ k)) (tell (full k g) R).2).2).2).2 := rfl
    rw [qe] at q
    generalize (full k g) = T1 at *
    generalize (full k fun r c => g r (c + 2 ^ k)) = T2 at *
    generalize (full k fun r c => g (r + 2 ^ k) c) = T3 at *
    generalize (full k fun r c => g (r + 2 ^ k) (c + 2 ^ k)) = T4 at *
    refine ⟨⟨_, rfl⟩, ⟨by decide, by decide⟩, kc _, by decide, kc _, turn R [] _ _ _ T1 _ (upN h) (upS (SameBut.refl _ _)) (by omega) t1 fun G1 h1 s1 a1 => ?_⟩
    rw [up_same] at a1
    refine ⟨_, a1, szl (by simp), ⟨_, rfl⟩, ⟨by decide, by decide⟩, kc _, by decide, kc _, turn _ [] _ _ _ T2 _ (upN h1) (upS s1) (by omega) t2 fun G2 h2 s2 a2 => ?_⟩
    rw [up_same] at a2
    refine ⟨_, a2, szl (by simp), ⟨_, rfl⟩, ⟨by decide, by decide⟩, kc _, by decide, kc _, turn _ [] _ _ _ T3 _ (upN h2) (upS s2) (by omega) t3 fun G3 h3 s3 a3 => ?_⟩
    rw [up_same] at a3
    refine ⟨_, a3, szl (by simp), ⟨_, rfl⟩, ⟨by decide, by decide⟩, kc _, by decide, kc _, turn _ [] _ _ _ T4 _ (upN h3) (upS s3) (by omega) t4 fun G4 h4 s4 a4 => ?_⟩
    rw [up_same] at a4
    generalize (tell T1 R).1 = n1 at *
    generalize (tell T2 (tell T1 R).2).1 = n2 at *
    generalize (tell T3 (tell T2 (tell T1 R).2).2).1 = n3 at *
    generalize (tell T4 (tell T3 (tell T2 (tell T1 R).2).2).2).1 = n4 at *
    generalize (tell T4 (tell T3 (tell T2 (tell T1 R).2).2).2).2 = R4 at *
    refine ⟨_, a4, szl (by simp), ?_⟩
    walk_at "QT"
    have er : D.tup [.int ((n1 : Nat) : Int), .int ((n2 : Nat) : Int), .int ((n3 : Nat) : Int), .int ((n4 : Nat) : Int)] = rowD [n1, n2, n3, n4] := rfl
    rw [er]
    -- what is left of the local list
    have out : ∀ (R' : Rws) (x : Nat) (G5 : DG), nnum [n1, n2, n3, n4] R4 = (x, R') → NumAt l m R' G5 → SameBut [l, m, a] G G5 → cl Q (.int ((x : Nat) : Int)) G5 := fun R' x G5 e hn hs => by
      rw [e] at q
      refine cl_less (G' := del G5 a) (fun b o eb => ?_) (q _ ⟨by rw [del_ne nla]; exact hn.lst, by rw [del_ne nma]; exact hn.dct⟩ fun b hb => ?_)
      · by_cases hba : b = a
        · subst hba; rw [del_same] at eb; cases eb
        · rw [del_ne hba] at eb; exact eb
      · by_cases hba : b = a
        · subst hba; rw [del_same, ha]
        · rw [del_ne hba]
          simp at hb
          exact hs b (by simp; exact ⟨hb.1, hb.2, hba⟩)
    have h5 : ∀ o, NumAt l m R4 (up G4 a o) := fun o => upN h4
    have s5 : ∀ o, SameBut [l, m, a] G (up G4 a o) := fun o => upS s4
    simp only [any01, okD_rowD, ok01, (h5 _).lst]
    walk_at "QT"
    have h01' : (n1 = 0 ∧ n2 = 0 ∧ n3 = 0 ∧ n4 = 0 ∨ n1 = 1 ∧ n2 = 1 ∧ n3 = 1 ∧ n4 = 1) ↔ ([n1, n2, n3, n4] = [0, 0, 0, 0] ∨ [n1, n2, n3, n4] = [1, 1, 1, 1]) := by simp
    by_cases h01 : [n1, n2, n3, n4] = [0, 0, 0, 0] ∨ [n1, n2, n3, n4] = [1, 1, 1, 1]
    · rw [if_pos (decide_eq_true (h01'.mpr h01))]
      refine out R4 n1 _ ?_ (h5 _) (s5 _)
      rcases h01 with e | e
      · unfold nnum
        rw [if_pos e]
        simp only [List.cons.injEq] at e
        rw [e.1]
      · unfold nnum
        rw [if_neg (by rw [e]; decide), if_pos e]
        simp only [List.cons.injEq] at e
        rw [e.1]
    · rw [if_neg (fun z => h01 (h01'.mp (of_decide_eq_true z)))]
      refine ⟨numsD R4, dkv_dn (h5 _).dct (isN_rowD _), ?_⟩
      simp only [numsD_get]
      by_cases hm : [n1, n2, n3, n4] ∈ R4
      · simp only [hm, if_true, Option.isSome_some]
        walk_at "QT"
        refine ⟨_, dkv_dn (h5 _).dct (isN_rowD _), _, by rw [numsD_get, if_pos hm], out R4 _ _ ?_ (h5 _) (s5 _)⟩
        unfold nnum
        rw [if_neg (fun z => h01 (.inl z)), if_neg (fun z => h01 (.inr z)), if_pos hm]
      · simp only [hm, if_false, Option.isSome_none]
        walk_at "QT"
        have hlm := h4.ne
        have hR4 : R4.length ≤ 100000 := by omega
        have hz2 : (numsD R4).length < sizeLine := by rw [numsD_length]; exact szl (by omega)
        have e2' : ((((R4.map rowD) ++ [rowD [n1, n2, n3, n4]]).length : Nat) : Int) + 1 = ((R4.length + 2 : Nat) : Int) := by simp; omega
        refine ⟨⟨_, rfl⟩, szl (by simp; omega), .dn (numsD (R4 ++ [[n1, n2, n3, n4]])), ?_, _, dkv_dn up_same (isN_rowD _), _, by rw [numsD_get, if_pos (List.mem_append_right _ (by simp))], out (R4 ++ [[n1, n2, n3, n4]]) _ _ ?_ ⟨?_, up_same⟩ (((s5 _).trans (SameBut.up (by simp))).trans (SameBut.up (by simp)))⟩
        · rw [up_ne hlm.symm, (h5 _).dct, putO_dn (isN_rowD _) hz2, e2', numsD_put hm]
        · unfold nnum
          rw [if_neg (fun z => h01 (.inl z)), if_neg (fun z => h01 (.inr z)), if_neg hm]
          have e3 : (R4 ++ [[n1, n2, n3, n4]]).idxOf [n1, n2, n3, n4] = R4.length := by rw [List.idxOf_append, if_neg hm]; simp
          rw [e3]
        · rw [up_ne hlm, up_same, List.map_append]; rfl
def cellF (cs : List Cell) (r c : Int) : Bool := decide ((r, c) ∈ cs)
def sp_law_shape : DSp := fun ds G Q _ => ∃ (n : Nat) (cs : List Cell), ds = [.int ((n : Nat) : Int), .lst (cs.map cellD)] ∧ n ≤ 8 ∧ cs.length ≤ 100000 ∧ Q (tellD ((n : Nat) : Int) (tell (full n (cellF cs)) []).1 (tell (full n (cellF cs)) []).2) G
theorem b_law_shape {ds : List D} {G : DG} {Q : DQ} {E : DX} (h : sp_law_shape ds G Q E) : R_law_shape (sp_law_number 8) { nx := fun _ G' => cl Q .non G', rt := cl Q } (startD 6 ds) G := by
  obtain ⟨n, cs, rfl, hn, hz, q⟩ := h
  unfold R_law_shape
  walk_at "QT"
  intro a ha
  refine feach_inv (fun pre τ G' => ∃ o3, τ = [some (.int ((n : Nat) : Int)), some (.lst (cs.map cellD)), some (.ref a), o3, none, none] ∧ ∃ (ps : List Cell) (kvs : List (D × D)) (ts : List (List Int)), pre = ps.map cellD ∧ kvs.map (·.1) = ts.map tupI ∧ (∀ t, t ∈ ts ↔ ∃ p ∈ ps, t = cellL p) ∧ kvs.length ≤ ps.length ∧ G' = up G a (.dn kvs)) ?_ ?_ ?_ ?_
  · exact ⟨none, rfl, [], [], [], rfl, rfl, (fun t => by simp), Nat.le_refl _, rfl⟩
  · exact fun _ _ _ _ => trivial
  · rintro pre d post τ G' e ⟨o3, rfl, ps, kvs, ts, rfl, e1, e2, e3, rfl⟩
    have hd : d ∈ cs.map cellD := by rw [e]; simp
    obtain ⟨p, hp, rfl⟩ := List.mem_map.mp hd
    have pl : ps.length < cs.length := by
      have := congrArg List.length e
      simp at this
      omega
    refine ⟨_, rfl, fun K hK => ?_⟩
    walk_at "QT"
    refine ⟨_, putO_dn (isN_cellD p) (szl (by omega)), hK _ _ ⟨_, rfl, ps ++ [p], _, _, by rw [List.map_append]; rfl, dputT e1 (t := cellL p), fun t => ?_, ?_, rfl⟩⟩
    · by_cases hm : cellL p ∈ ts
      · rw [if_pos hm, e2]
        constructor
        · rintro ⟨x, hx, e⟩
          exact ⟨x, List.mem_append_left _ hx, e⟩
        · rintro ⟨x, hx, e⟩
          rcases List.mem_append.mp hx with hx | hx
          · exact ⟨x, hx, e⟩
          · rw [List.mem_singleton.mp hx] at e
            rw [e]
            exact (e2 _).mp hm
      · rw [if_neg hm, List.mem_append, e2]
        constructor
        · rintro (⟨x, hx, e⟩ | h)
          · exact ⟨x, List.mem_append_left _ hx, e⟩
          · exact ⟨p, by simp, List.mem_singleton.mp h⟩
        · rintro ⟨x, hx, e⟩
          rcases List.mem_append.mp hx with hx | hx
          · exact .inl ⟨x, hx, e⟩
          · rw [List.mem_singleton.mp hx] at e
            exact .inr (by rw [e]; simp)
    · have := dputL_length kvs (cellD p) (.bl true)
      rw [List.length_append, List.length_singleton]
      exact Nat.le_trans this (by omega)
  · rintro τ G' ⟨o3, rfl, ps, kvs, ts, e0, e1, e2, e3, rfl⟩
    have hps : ps = cs := by
      have : ∀ l m : List Cell, l.map cellD = m.map cellD → l = m := fun l => by
        induction l with
        | nil => intro m h; cases m with
          | nil => rfl
          | cons => simp at h
        | cons x l ih =>
          intro m h
          cases m with
          | nil => simp at h
          | cons y m =>
            simp only [List.map_cons, List.cons.injEq] at h
            rw [ih m h.2]
            have h1 := h.1
            simp only [cellD_eq, D.tup.injEq, List.cons.injEq, D.int.injEq, and_true] at h1
            rw [Prod.ext h1.1 h1.2]
      exact (this _ _ e0).symm
    subst hps
    walk_at "QT"
    intro l hl m hm
    have nla : a ≠ l := ne_new up_same hl
    have nma : a ≠ m := fun e => by
      subst e
      rw [up_ne nla, up_same] at hm
      cases hm
    have nml : m ≠ l := fun e => by subst e; rw [up_same] at hm; cases hm
    have hp : (1 : Int) * 2 ^ (((n : Nat) : Int).toNat) = 2 ^ n := by rw [Int.one_mul, Int.toNat_natCast]
    rw [hp]
    have p4 : 4 ^ n ≤ 65536 := Nat.le_trans (Nat.pow_le_pow_right (by decide) hn) (by decide)
    refine ⟨⟨by omega, by omega, by decide⟩, a, kvs, l, m, [], 0, 0, n, cellF ps, rfl, hn, by rw [up_ne nma, up_ne nla, up_same], nma, ⟨by rw [up_ne nml.symm, up_same]; rfl, by rw [up_same]; rfl⟩, by simp; omega, by omega, fun r c => ?_, fun G5 h5 s5 => ?_⟩
    · rw [dgetT e1]
      unfold cellF
      congr 1
      apply propext
      rw [e2]
      constructor
      · rintro ⟨p, hp, e⟩
        have := cellL_inj (p := (r, c)) (q := p) e
        rw [this]; exact hp
      · intro h
        exact ⟨(r, c), h, rfl⟩
    · have fc : full n (fun r c => cellF ps (0 + r) (0 + c)) = full n (cellF ps) := full_congr n fun r c => by rw [Int.zero_add, Int.zero_add]
      rw [fc] at h5 ⊢
      walk_at "QT"
      simp only [h5.lst]
      walk_at "QT"
      refine cl_less (fun b o eb => ?_) q
      have n1 := ne_new eb ha
      have n2 : b ≠ l := fun e => by subst e; rw [up_ne nla.symm] at hl; rw [hl] at eb; cases eb
      have n3 : b ≠ m := fun e => by subst e; rw [up_ne nml, up_ne nma.symm] at hm; rw [hm] at eb; cases eb
      rw [s5 b (by simp; exact ⟨n2, n3⟩), up_ne n3, up_ne n2, up_ne n1]
      exact eb
/-! ### parted squares of a size -/
theorem dget_dput (t t' : List Int) (v : D) (kvs : List (D × D)) : dgetL (dputL kvs (tupI t) v) (tupI t') = if t = t' then some v else dgetL kvs (tupI t') := by
  by_cases e : t = t'
  · subst e
    rw [if_pos rfl]
    unfold dputL
    cases h : dgetL kvs (tupI t) with
    | none =>
      simp only [Option.isSome_none, Bool.false_eq_true, if_false]
      rw [dgetL_append, h]
      unfold dgetL
      simp
    | some w =>
      simp only [Option.isSome_some, if_true]
      unfold dgetL at h ⊢
      induction kvs with
      | nil => simp at h
      | cons p kvs ih =>
        rw [List.map_cons, List.find?_cons]
        rw [List.find?_cons] at h
        by_cases hp : p.1.norm = (tupI t).norm
        · rw [if_pos hp]
          simp [hp]
        · rw [if_neg hp]
          have hd : decide (p.1.norm = (tupI t).norm) = false := decide_eq_false hp
          simp only [hd] at h ⊢
          exact ih h
  · rw [if_neg e]
    have ne : ¬ (tupI t).norm = (tupI t').norm := fun z => e ((norm_tupI _ _).mp z)
    unfold dputL
    split
    · unfold dgetL
      induction kvs with
      | nil => rfl
      | cons p kvs ih =>
        rename_i hh
        rw [List.map_cons, List.find?_cons, List.find?_cons]
        by_cases hp : p.1.norm = (tupI t).norm
        · rw [if_pos hp]
          have hd : decide (p.1.norm = (tupI t').norm) = false := decide_eq_false fun z => ne (hp.symm.trans z)
          simp only [hd]
          have : ∀ kvs : List (D × D), ((kvs.map fun p => if p.1.norm = (tupI t).norm then (p.1, v) else p).find? fun p => decide (p.1.norm = (tupI t').norm)).map (·.2) = (kvs.find? fun p => decide (p.1.norm = (tupI t').norm)).map (·.2) := fun kvs => by
            induction kvs with
            | nil => rfl
            | cons p kvs ih =>
              rw [List.map_cons, List.find?_cons, List.find?_cons]
              by_cases hp : p.1.norm = (tupI t).norm
              · rw [if_pos hp]
                have hd : decide (p.1.norm = (tupI t').norm) = false := decide_eq_false fun z => ne (hp.symm.trans z)
                simp only [hd]
                exact ih
              · rw [if_neg hp]
                cases decide (p.1.norm = (tupI t').norm) with
                | true => rfl
                | false => exact ih
          exact this kvs
        · rw [if_neg hp]
          cases decide (p.1.norm = (tupI t').norm) with
          | true => rfl
          | false =>
            have : ∀ kvs : List (D × D), ((kvs.map fun p => if p.1.norm = (tupI t).norm then (p.1, v) else p).find? fun p => decide (p.1.norm = (tupI t').norm)).map (·.2) = (kvs.find? fun p => decide (p.1.norm = (tupI t').norm)).map (·.2) := fun kvs => by
              induction kvs with
              | nil => rfl
              | cons p kvs ih =>
                rw [List.map_cons, List.find?_cons, List.find?_cons]
                by_cases hp : p.1.norm = (tupI t).norm
                · rw [if_pos hp]
                  have hd : decide (p.1.norm = (tupI t').norm) = false := decide_eq_false fun z => ne (hp.symm.trans z)
                  simp only [hd]
                  exact ih
                · rw [if_neg hp]
                  cases decide (p.1.norm = (tupI t').norm) with
                  | true => rfl
                  | false => exact ih
            exact this kvs
    · rw [dgetL_append]
      have : dgetL [(tupI t, v)] (tupI t') = none := by
        unfold dgetL
        simp [ne]
      rw [this]
      cases dgetL kvs (tupI t') <;> rfl
def lab (k : Nat) (p : Cell) : Cell := (p.1 / 2 ^ k, p.2 / 2 ^ k)
def cnt (lb : Cell → Cell) (cs : List Cell) (l : Cell) : Nat := cs.countP fun p => decide (lb p = l)
/-- a dict that counts by labels -/
structure Counted (lb : Cell → Cell) (ps : List Cell) (kvs : List (D × D)) (ls : List Cell) : Prop where
  keys : kvs.map (·.1) = ls.map cellD
  nd : ls.Nodup
  mem : ∀ l, l ∈ ls ↔ 0 < cnt lb ps l
  val : ∀ l, dgetL kvs (cellD l) = if 0 < cnt lb ps l then some (.int ((cnt lb ps l : Nat) : Int)) else none
theorem Counted.len {lb : Cell → Cell} {ps : List Cell} {kvs : List (D × D)} {ls : List Cell} (h : Counted lb ps kvs ls) : kvs.length ≤ ps.length := by
  have e := congrArg List.length h.keys
  rw [List.length_map, List.length_map] at e
  have := nodup_le ls (ps.map lb) h.nd fun l hl => by
    have := (h.mem l).mp hl
    unfold cnt at this
    rw [List.countP_pos_iff] at this
    obtain ⟨p, hp, e⟩ := this
    exact List.mem_map.mpr ⟨p, hp, of_decide_eq_true e⟩
  rw [List.length_map] at this
  omega
theorem cnt_snoc (lb : Cell → Cell) (ps : List Cell) (p l : Cell) : cnt lb (ps ++ [p]) l = cnt lb ps l + if lb p = l then 1 else 0 := by
  unfold cnt
  rw [List.countP_append]
  congr 1
  rw [List.countP_cons, List.countP_nil]
  by_cases h : lb p = l <;> simp [h]
theorem Counted.step {lb : Cell → Cell} {ps : List Cell} {kvs : List (D × D)} {ls : List Cell} (h : Counted lb ps kvs ls) (p : Cell) : ∃ ls', Counted lb (ps ++ [p]) (dputL kvs (cellD (lb p)) (.int (((cnt lb ps (lb p) : Nat) : Int) + 1))) ls' := by
  have hk := h.keys
  rw [cells_tupI] at hk
  have e1 := dputT (t := cellL (lb p)) (v := .int (((cnt lb ps (lb p) : Nat) : Int) + 1)) hk
  have val : ∀ l, dgetL (dputL kvs (cellD (lb p)) (.int (((cnt lb ps (lb p) : Nat) : Int) + 1))) (cellD l) = if 0 < cnt lb (ps ++ [p]) l then some (.int ((cnt lb (ps ++ [p]) l : Nat) : Int)) else none := fun l => by
    have := dget_dput (cellL (lb p)) (cellL l) (.int (((cnt lb ps (lb p) : Nat) : Int) + 1)) kvs
    rw [show cellD (lb p) = tupI (cellL (lb p)) from rfl, show cellD l = tupI (cellL l) from rfl, this, cnt_snoc]
    by_cases e : lb p = l
    · subst e
      simp
    · have e' : ¬ cellL (lb p) = cellL l := fun z => e (cellL_inj z)
      rw [if_neg e', if_neg e, Nat.add_zero]
      exact h.val l
  by_cases hm : lb p ∈ ls
  · rw [if_pos (mem_cellL.mpr hm), ← cells_tupI] at e1
    refine ⟨ls, e1, h.nd, fun l => ?_, val⟩
    rw [cnt_snoc, h.mem]
    by_cases e : lb p = l
    · subst e
      have := (h.mem _).mp hm
      simp [this]
    · rw [if_neg e]; rfl
  · rw [if_neg (fun z => hm (mem_cellL.mp z))] at e1
    refine ⟨ls ++ [lb p], ?_, ?_, fun l => ?_, val⟩
    · rw [cells_tupI, List.map_append]
      exact e1
    · rw [List.nodup_append]
      exact ⟨h.nd, by simp, fun a ha b hb z => by simp at hb; subst hb; subst z; exact hm ha⟩
    · rw [List.mem_append, List.mem_singleton, h.mem, cnt_snoc]
      by_cases e : lb p = l
      · simp [e]
      · have e' : ¬ l = lb p := fun z => e z.symm
        simp [e, e']
/-- so many squares of size k have some of the cells, but not all of theirs -/
def IsPart (cs : List Cell) (k N : Nat) : Prop := ∃ L : List Cell, L.Nodup ∧ (∀ l, l ∈ L ↔ 0 < cnt (lab k) cs l ∧ cnt (lab k) cs l < 4 ^ k) ∧ N = L.length
theorem IsPart.uniq {cs : List Cell} {k N M : Nat} (h : IsPart cs k N) (h' : IsPart cs k M) : N = M := by
  obtain ⟨L, a, b, rfl⟩ := h
  obtain ⟨L', a', b', rfl⟩ := h'
  have h1 := nodup_le L L' a fun x hx => (b' x).mpr ((b x).mp hx)
  have h2 := nodup_le L' L a' fun x hx => (b x).mpr ((b' x).mp hx)
  omega
theorem fm_filter {α : Type} (p : α → Prop) [DecidablePred p] : ∀ ls : List α, (ls.filterMap fun l => if p l then some l else none) = ls.filter fun l => decide (p l)
  | [] => rfl
  | x :: ls => by
    by_cases h : p x
    · rw [List.filterMap_cons_some (by rw [if_pos h]), List.filter_cons_of_pos (by simpa using h), fm_filter p ls]
    · rw [List.filterMap_cons_none (by rw [if_neg h]), List.filter_cons_of_neg (by simpa using h), fm_filter p ls]
theorem cells_inj : ∀ l m : List Cell, l.map cellD = m.map cellD → l = m
  | [], [], _ => rfl
  | [], _ :: _, h => by simp at h
  | _ :: _, [], h => by simp at h
  | x :: l, y :: m, h => by
    simp only [List.map_cons, List.cons.injEq] at h
    rw [cells_inj l m h.2]
    have h1 := h.1
    simp only [cellD_eq, D.tup.injEq, List.cons.injEq, D.int.injEq, and_true] at h1
    rw [Prod.ext h1.1 h1.2]
def sp_law_parted : DSp := fun ds G Q _ => ∃ (cs : List Cell) (n : Nat), ds = [.lst (cs.map cellD), .int ((n : Nat) : Int)] ∧ cs.length ≤ 100000 ∧ n ≤ 8 ∧ ∀ xs : List Nat, xs.length = n → (∀ i x, xs[i]? = some x → IsPart cs (i + 1) x) → Q (.lst (xs.map fun (x : Nat) => D.int ((x : Nat) : Int))) G
theorem b_law_parted {ds : List D} {G : DG} {Q : DQ} {E : DX} (h : sp_law_parted ds G Q E) : R_law_parted { nx := fun _ G' => cl Q .non G', rt := cl Q } (startD 8 ds) G := by
  obtain ⟨cs, n, rfl, hz, hn, q⟩ := h
  unfold R_law_parted
  walk_at "QT"
  intro l hl
  refine ⟨⟨by decide, by decide, by omega, by omega⟩, ?_⟩
  refine feach_inv (fun pre τ G' => ∃ o3 o4 o5 o6 o7, τ = [some (.lst (cs.map cellD)), some (.int ((n : Nat) : Int)), some (.ref l), o3, o4, o5, o6, o7] ∧ ∃ xs : List Nat, xs.length = pre.length ∧ (∀ i x, xs[i]? = some x → IsPart cs (i + 1) x) ∧ G' l = some (.lst (xs.map fun (x : Nat) => D.int ((x : Nat) : Int))) ∧ ∀ a o, G a = some o → G' a = some o) ?_ ?_ ?_ ?_
  · exact ⟨none, none, none, none, none, rfl, [], rfl, (fun i x h => by simp at h), up_same, less_up hl⟩
  · exact fun _ _ _ _ => trivial
  · rintro pre d post τ G1 e ⟨o3, o4, o5, o6, o7, rfl, xs, xl, xp, hG, hE⟩
    have hd : d = .int (1 + (pre.length : Int)) ∧ pre.length < n := by
      have h1 : (rangeD 1 (((n : Nat) : Int) + 1 - 1).toNat)[pre.length]? = some d := by
        rw [e, List.getElem?_append_right (Nat.le_refl _), Nat.sub_self]; rfl
      unfold rangeD at h1
      rw [List.getElem?_map] at h1
      have h2 : pre.length < (((n : Nat) : Int) + 1 - 1).toNat := by
        have := congrArg List.length e
        rw [rangeD_length] at this
        simp at this
        omega
      rw [List.getElem?_range h2] at h1
      exact ⟨(Option.some.inj h1).symm, by omega⟩
    obtain ⟨rfl, hpn⟩ := hd
    have hk1 : (1 : Int) + (pre.length : Int) = ((pre.length + 1 : Nat) : Int) := by omega
    refine ⟨_, rfl, fun K hK => ?_⟩
    rw [hk1]
    generalize hkk : pre.length + 1 = k at *
    walk_at "QT"
    intro a ha
    have nla : l ≠ a := ne_new hG ha
    refine feach_inv (fun pre2 τ G' => ∃ o5 o6 o7, τ = [some (.lst (cs.map cellD)), some (.int ((n : Nat) : Int)), some (.ref l), some (.int ((k : Nat) : Int)), some (.ref a), o5, o6, o7] ∧ ∃ (ps : List Cell) (kvs : List (D × D)) (ls : List Cell), pre2 = ps.map cellD ∧ Counted (lab k) ps kvs ls ∧ ps.length ≤ cs.length ∧ G' = up G1 a (.dn kvs)) ?_ ?_ ?_ ?_
    · exact ⟨_, _, _, rfl, [], [], [], rfl, ⟨rfl, List.nodup_nil, fun l => by simp [cnt], fun l => rfl⟩, Nat.zero_le _, rfl⟩
    · exact fun _ _ _ _ => trivial
    · rintro pre2 d2 post2 τ G' e2 ⟨o5, o6, o7, rfl, ps, kvs, ls, rfl, hc, hpl, rfl⟩
      have hd2 : d2 ∈ cs.map cellD := by rw [e2]; simp
      obtain ⟨p, hp, rfl⟩ := List.mem_map.mp hd2
      have pl : ps.length < cs.length := by
        have := congrArg List.length e2
        simp at this
        omega
      refine ⟨_, rfl, fun K2 hK2 => ?_⟩
      walk_at "QT"
      have hlen := hc.len
      have ek : (((k : Nat) : Int)).toNat = k := Int.toNat_natCast k
      rw [ek]
      have el : D.tup [.int (p.1 / 2 ^ k), .int (p.2 / 2 ^ k)] = cellD (lab k p) := rfl
      rw [el]
      have gd : (dgetL kvs (cellD (lab k p))).getD (.int 0) = .int ((cnt (lab k) ps (lab k p) : Nat) : Int) := by
        rw [hc.val]
        split
        · rfl
        · have : cnt (lab k) ps (lab k p) = 0 := by omega
          rw [this]; rfl
      obtain ⟨ls', hc'⟩ := hc.step p
      refine ⟨by omega, by omega, kvs, dkv_dn up_same (isN_cellD _), _, gd, _, putO_dn (isN_cellD _) (szl (by omega)), hK2 _ _ ⟨_, _, _, rfl, ps ++ [p], _, ls', by rw [List.map_append]; rfl, hc', by simp; omega, rfl⟩⟩
    · rintro τ G' ⟨o5, o6, o7, rfl, ps, kvs, ls, e0, hc, hpl, rfl⟩
      have hps := cells_inj _ _ e0
      subst hps
      show sLock _ _ _ _
      refine ⟨a, kvs, .inr ⟨up_same, fun od φ => ?_⟩⟩
      walk_at "QT"
      refine ⟨⟨_, by rw [up_ne nla]; exact hG⟩, fun c hc1 => ?_⟩
      rw [hc.keys]
      have hlen := hc.len
      have ek : (((k : Nat) : Int)).toNat = k := Int.toNat_natCast k
      have e2k : ((2 : Int) * ((k : Nat) : Int)).toNat = 2 * k := by omega
      have p4 : (1 : Int) * 2 ^ (2 * k) = ((4 ^ k : Nat) : Int) := by
        rw [Int.one_mul, Int.pow_mul]
        simp
      let f : D → Option D := fun d => match dgetL kvs d with | some (.int x) => if x < ((4 ^ k : Nat) : Int) then some d else none | _ => none
      have hfl : ∀ l ∈ ls, f (cellD l) = if cnt (lab k) cs l < 4 ^ k then some (cellD l) else none := fun l hl' => by
        have := (hc.mem l).mp hl'
        simp only [f, hc.val l, if_pos this]
        by_cases c : cnt (lab k) cs l < 4 ^ k
        · rw [if_pos c, if_pos (by omega)]
        · rw [if_neg c, if_neg (by omega)]
      have hf : (ls.map cellD).filterMap f = (ls.filter fun l => decide (cnt (lab k) cs l < 4 ^ k)).map cellD := by
        have : (ls.map cellD).filterMap f = (ls.filterMap fun l => if cnt (lab k) cs l < 4 ^ k then some l else none).map cellD := fm_dec fun l hl' => by
          rw [hfl l hl']
          split <;> rfl
        rw [this]
        congr 1
        exact fm_filter _ _
      have lkd : (up (up G1 a (.dn kvs)) a (.lk od (.ext φ) kvs)) a = some (.lk od (.ext φ) kvs) := up_same
      refine lceach_pure f hc1 (fun G2 e2 => e2 _ _ up_same) (fun d2 hd2 => ?_) ?_ ?_
      · obtain ⟨l2, hl2, rfl⟩ := List.mem_map.mp hd2
        refine ⟨_, rfl, fun G2 e2 Kt Kf hk => ?_⟩
        have hpos := (hc.mem l2).mp hl2
        have hv := hc.val l2
        rw [if_pos hpos] at hv
        rw [hfl l2 hl2] at hk
        walk_at "QT"
        refine ⟨_, dkv_lkN (e2 _ _ up_same) (isN_cellD _), _, hv, ?_⟩
        walk_at "QT"
        refine ⟨cmulL (by decide) (by decide), ⟨by omega, by omega, by decide⟩, ?_⟩
        rw [e2k, p4]
        by_cases c : cnt (lab k) cs l2 < 4 ^ k
        · rw [if_pos c] at hk
          rw [if_pos (decide_eq_true (by omega))]
          exact hk
        · rw [if_neg c] at hk
          rw [if_neg (fun z => c (by have := of_decide_eq_true z; omega))]
          exact hk
      · rw [hf, List.length_map]
        have h1 := List.length_filter_le (fun l => decide (cnt (lab k) cs l < 4 ^ k)) ls
        have e := congrArg List.length hc.keys
        rw [List.length_map, List.length_map] at e
        exact sze (by omega)
      · rw [hf]
        walk_at "QT"
        have nlc : l ≠ c := ne_new (by rw [up_ne nla]; exact hG) hc1
        have hN : IsPart cs k (ls.filter fun l => decide (cnt (lab k) cs l < 4 ^ k)).length := ⟨_, hc.nd.filter _, fun l2 => by
          rw [List.mem_filter, hc.mem, decide_eq_true_eq], rfl⟩
        rw [del_up hc1]
        refine ⟨_, by rw [up_ne nla]; exact hG, szl (by simp; omega), by rw [up_ne nla.symm, up_same], hK _ _ ⟨_, _, _, _, _, rfl, xs ++ [(ls.filter fun l => decide (cnt (lab k) cs l < 4 ^ k)).length], by simp [xl], fun i x hx => ?_, ?_, fun b o eb => ?_⟩⟩
        · by_cases hi : i < xs.length
          · rw [List.getElem?_append_left hi] at hx
            exact xp i x hx
          · rw [List.getElem?_append_right (by omega)] at hx
            have hi2 : i - xs.length = 0 := by
              cases h : i - xs.length with
              | zero => rfl
              | succ j => rw [h] at hx; simp at hx
            rw [hi2] at hx
            simp at hx
            have : i + 1 = k := by omega
            rw [this, ← hx]
            exact hN
        · rw [up_ne nla, up_same, List.map_append, List.length_map]
          rfl
        · have h1 := hE b o eb
          have n1 : b ≠ a := ne_new h1 ha
          have n2 : b ≠ l := ne_new eb hl
          rw [up_ne n1, up_ne n2, up_ne n1]
          exact h1
  · rintro τ G1 ⟨o3, o4, o5, o6, o7, rfl, xs, xl, xp, hG, hE⟩
    walk_at "QT"
    rw [rangeD_length] at xl
    refine cl_fin hG hl hE (q xs (by omega) xp)
/-! ### where full cells end -/
theorem szl2 {n : Nat} (h : n ≤ 10000000) : n < sizeLine := Nat.lt_of_le_of_lt h (by decide)
def semI : QT → Nat → Int → Int → Bool
  | .lf b, k, r, c => b && decide (0 ≤ r ∧ r < 2 ^ k ∧ 0 ≤ c ∧ c < 2 ^ k)
  | .nd _ _ _ _, 0, _, _ => false
  | .nd ta tb tc td, k + 1, r, c => semI ta k r c || semI tb k r (c - 2 ^ k) || semI tc k (r - 2 ^ k) c || semI td k (r - 2 ^ k) (c - 2 ^ k)
theorem semI_in : ∀ (t : QT) (k : Nat) (r c : Int), semI t k r c = true → 0 ≤ r ∧ r < 2 ^ k ∧ 0 ≤ c ∧ c < 2 ^ k := by
  intro t
  induction t with
  | lf b =>
    intro k r c h
    have h : (b && decide (0 ≤ r ∧ r < 2 ^ k ∧ 0 ≤ c ∧ c < 2 ^ k)) = true := h
    rw [Bool.and_eq_true] at h
    exact of_decide_eq_true h.2
  | nd ta tb tc td i1 i2 i3 i4 =>
    intro k r c h
    cases k with
    | zero => cases h
    | succ k =>
      have h : (semI ta k r c || semI tb k r (c - 2 ^ k) || semI tc k (r - 2 ^ k) c || semI td k (r - 2 ^ k) (c - 2 ^ k)) = true := h
      simp only [Bool.or_eq_true] at h
      have hp := pow_pos' k
      have e2 : (2 : Int) ^ (k + 1) = 2 ^ k * 2 := Int.pow_succ ..
      rcases h with ((h | h) | h) | h
      · have := i1 _ _ _ h; omega
      · have := i2 _ _ _ h; omega
      · have := i3 _ _ _ h; omega
      · have := i4 _ _ _ h; omega
structure BoundsP (P : Int → Int → Prop) (a b c d : Int) : Prop where
  a1 : ∃ x y, P x y ∧ x = a
  a2 : ∀ x y, P x y → a ≤ x
  b1 : ∃ x y, P x y ∧ y = b
  b2 : ∀ x y, P x y → b ≤ y
  c1 : ∃ x y, P x y ∧ x = c
  c2 : ∀ x y, P x y → x ≤ c
  d1 : ∃ x y, P x y ∧ y = d
  d2 : ∀ x y, P x y → y ≤ d
def EndV (P : Int → Int → Prop) (d : D) : Prop := (d = .non ∧ ∀ r c, ¬ P r c) ∨ ∃ a b c e, d = tupI [a, b, c, e] ∧ BoundsP P a b c e
def cntF (T : Rws) (a1 a2 a3 a4 : Addr) : List (Str × D) := [(("rows" : Str), D.tup (T.map rowD)), (("leaves" : Str), .ref a1), (("sums" : Str), .ref a2), (("ends" : Str), .ref a3), (("parted" : Str), .ref a4)]
theorem cf_rows {T a1 a2 a3 a4} : (cntF T a1 a2 a3 a4).lookup ("rows" : Str) = some (.tup (T.map rowD)) := rfl
theorem cf_ends {T a1 a2 a3 a4} : (cntF T a1 a2 a3 a4).lookup ("ends" : Str) = some (.ref a3) := rfl
theorem cf_no {T a1 a2 a3 a4} {m : Str} (h1 : (m == ("rows" : Str)) = false) (h2 : (m == ("leaves" : Str)) = false) (h3 : (m == ("sums" : Str)) = false) (h4 : (m == ("ends" : Str)) = false) (h5 : (m == ("parted" : Str)) = false) : (cntF T a1 a2 a3 a4).lookup m = none := by
  simp only [cntF, List.lookup, h1, h2, h3, h4, h5]
theorem cf_q {T a1 a2 a3 a4} : (cntF T a1 a2 a3 a4).lookup ("quarters" : Str) = none := cf_no (by decide) (by decide) (by decide) (by decide) (by decide)
theorem cf_ei {T a1 a2 a3 a4} : (cntF T a1 a2 a3 a4).lookup ("ends_in" : Str) = none := cf_no (by decide) (by decide) (by decide) (by decide) (by decide)
theorem cf_eq {T a1 a2 a3 a4} : (cntF T a1 a2 a3 a4).lookup ("ends_of_quarters" : Str) = none := cf_no (by decide) (by decide) (by decide) (by decide) (by decide)
/-- what is remembered is right -/
structure MemoE (T : Rws) (kvs : List (D × D)) : Prop where
  keys : ∃ ts : List (List Int), kvs.map (·.1) = ts.map tupI ∧ ts.Nodup ∧ ∀ t ∈ ts, ∃ x k : Nat, t = [((x : Nat) : Int), ((k : Nat) : Int)] ∧ x < T.length + 2 ∧ k < 13
  val : ∀ (x k : Nat) (t : QT) (d : D), Den T x t → dgetL kvs (tupI [((x : Nat) : Int), ((k : Nat) : Int)]) = some d → EndV (fun r c => semI t k r c = true) d
theorem MemoE.len {T : Rws} {kvs : List (D × D)} (h : MemoE T kvs) : kvs.length ≤ (T.length + 2) * 13 := by
  obtain ⟨ts, e, nd, ht⟩ := h.keys
  have e := congrArg List.length e
  rw [List.length_map, List.length_map] at e
  have := nodup_le ts ((List.range (T.length + 2)).flatMap fun x => (List.range 13).map fun k => [((x : Nat) : Int), ((k : Nat) : Int)]) nd fun t h => by
    obtain ⟨x, k, rfl, hx, hk⟩ := ht t h
    exact List.mem_flatMap.mpr ⟨x, List.mem_range.mpr hx, List.mem_map.mpr ⟨k, List.mem_range.mpr hk, rfl⟩⟩
  rw [List.length_flatMap] at this
  simp only [List.length_map, List.length_range, sum_const] at this
  omega
theorem MemoE.put {T : Rws} {kvs : List (D × D)} (h : MemoE T kvs) {x k : Nat} {t : QT} {d : D} (hd : Den T x t) (hk : k < 13) (he : EndV (fun r c => semI t k r c = true) d) : MemoE T (dputL kvs (tupI [((x : Nat) : Int), ((k : Nat) : Int)]) d) := by
  obtain ⟨ts, e, nd, ht⟩ := h.keys
  have e1 := dputT (t := [((x : Nat) : Int), ((k : Nat) : Int)]) (v := d) e
  refine ⟨⟨_, e1, ?_, fun t' h' => ?_⟩, fun x' k' t' d' hd' g => ?_⟩
  · split
    · exact nd
    · rename_i hm
      rw [List.nodup_append]
      exact ⟨nd, by simp, fun a ha b hb z => by simp at hb; subst hb; subst z; exact hm ha⟩
  · split at h'
    · exact ht t' h'
    · rcases List.mem_append.mp h' with h' | h'
      · exact ht t' h'
      · exact ⟨x, k, List.mem_singleton.mp h', hd.lt, hk⟩
  · rw [dget_dput] at g
    split at g
    · rename_i e2
      simp only [List.cons.injEq, and_true] at e2
      have ex : x = x' := by omega
      have ek : k = k' := by omega
      subst ex; subst ek
      cases g
      rw [← hd.fn hd']
      exact he
    · exact h.val x' k' t' d' hd' g
structure CntAt (C p : Addr) (T : Rws) (ea : Addr) (kvs : List (D × D)) (G : DG) : Prop where
  ins : ∃ a1 a2 a4, G p = some (.ins C (cntF T a1 a2 ea a4))
  dct : G ea = some (.dn kvs)
def sp_Counts_quarters (C : Addr) : DSp := fun ds G Q _ => ∃ (p : Addr) (T : Rws) (ea : Addr) (kvs : List (D × D)) (y : Nat) (q : List Nat), ds = [.ref p, .int ((y : Nat) : Int)] ∧ CntAt C p T ea kvs G ∧ 2 ≤ y ∧ T[y - 2]? = some q ∧ Q (rowD q) G
theorem b_Counts_quarters {C : Addr} {ds : List D} {G : DG} {Q : DQ} {E : DX} (h : sp_Counts_quarters C ds G Q E) : R_Counts_quarters C { nx := fun _ G' => cl Q .non G', rt := cl Q } (startD 2 ds) G := by
  obtain ⟨p, T, ea, kvs, y, q, rfl, ⟨⟨a1, a2, a4, hp⟩, hd⟩, h2, e, k⟩ := h
  unfold R_Counts_quarters
  walk_at "QT"
  simp only [hp, cf_rows]
  walk_at "QT"
  have e1 : ((y : Nat) : Int) - 2 = ((y - 2 : Nat) : Int) := by omega
  have e2 : (T.map rowD)[y - 2]? = some (rowD q) := by rw [List.getElem?_map, e]; rfl
  refine ⟨_, cf_rows, ?_⟩
  walk_at "QT"
  rw [e1]
  exact ⟨_, atI_nat e2, cl_of k⟩
def sp_Counts_ends_in (C : Addr) (N : Nat) : DSp := fun ds G Q _ => ∃ (p : Addr) (T : Rws) (ea : Addr) (kvs : List (D × D)) (x k : Nat) (t : QT), ds = [.ref p, .int ((x : Nat) : Int), .int ((k : Nat) : Int)] ∧ CntAt C p T ea kvs G ∧ MemoE T kvs ∧ OkR T ∧ T.length ≤ 100000 ∧ Den T x t ∧ ht t ≤ k ∧ k ≤ N ∧ k < 13 ∧
  ∀ d kvs' G', EndV (fun r c => semI t k r c = true) d → MemoE T kvs' → CntAt C p T ea kvs' G' → SameBut [ea] G G' → Q d G'
/-- of one that is parted, ahead of its being remembered -/
def sp_Counts_eoq (C : Addr) (N : Nat) : DSp := fun ds G Q _ => ∃ (p : Addr) (T : Rws) (ea : Addr) (kvs : List (D × D)) (x k : Nat) (t : QT), ds = [.ref p, .int ((x : Nat) : Int), .int ((k : Nat) : Int)] ∧ CntAt C p T ea kvs G ∧ MemoE T kvs ∧ OkR T ∧ T.length ≤ 100000 ∧ Den T x t ∧ 2 ≤ x ∧ ht t ≤ k ∧ k ≤ N ∧ k < 13 ∧
  ∀ d kvs' G', EndV (fun r c => semI t k r c = true) d → MemoE T kvs' → CntAt C p T ea kvs' G' → SameBut [ea] G G' → Q d G'
theorem CntAt.same {C p : Addr} {T : Rws} {ea : Addr} {kvs : List (D × D)} {G G' : DG} {S : List Addr} (h : CntAt C p T ea kvs G) (s : SameBut S G G') (h1 : p ∉ S) (h2 : ea ∉ S) : CntAt C p T ea kvs G' := by
  obtain ⟨⟨a1, a2, a4, hp⟩, hd⟩ := h
  exact ⟨⟨a1, a2, a4, (s _ h1).trans hp⟩, (s _ h2).trans hd⟩
theorem CntAt.ne {C p : Addr} {T : Rws} {ea : Addr} {kvs : List (D × D)} {G : DG} (h : CntAt C p T ea kvs G) : p ≠ ea := by
  obtain ⟨⟨a1, a2, a4, hp⟩, hd⟩ := h
  exact ne_kind hp hd (by simp)
theorem b_Counts_ends_in {C : Addr} {N : Nat} {so : DSp} (hso : so = sp_Counts_eoq C N) {ds : List D} {G : DG} {Q : DQ} {E : DX} (h : sp_Counts_ends_in C N ds G Q E) : R_Counts_ends_in C so { nx := fun _ G' => cl Q .non G', rt := cl Q } (startD 4 ds) G := by
  obtain ⟨p, T, ea, kvs, x, k, t, rfl, hc, hm, ok, hT, hd, hht, hk, hk13, q⟩ := h
  subst hso
  obtain ⟨⟨a1, a2, a4, hp⟩, hdc⟩ := id hc
  unfold R_Counts_ends_in
  walk_at "QT"
  have hpw : (1 : Int) * 2 ^ (((k : Nat) : Int).toNat) = 2 ^ k := by rw [Int.one_mul, Int.toNat_natCast]
  rw [hpw]
  have hpp := pow_pos' k
  refine ⟨⟨by omega, by omega, by decide⟩, ?_⟩
  cases hd with
  | z =>
    rw [if_pos (by decide : decide (((0 : Nat) : Int) = 0) = true)]
    exact cl_of (q _ _ _ (.inl ⟨rfl, fun r c h => by simp [semI] at h⟩) hm hc (SameBut.refl _ _))
  | o =>
    rw [if_neg (by decide : ¬ decide (((1 : Nat) : Int) = 0) = true), if_pos (by decide : decide (((1 : Nat) : Int) = 1) = true)]
    refine cl_of (q _ _ _ (.inr ⟨0, 0, 2 ^ k - 1, 2 ^ k - 1, rfl, ?_⟩) hm hc (SameBut.refl _ _))
    have e : ∀ r c : Int, (semI (.lf true) k r c = true) ↔ (0 ≤ r ∧ r < 2 ^ k ∧ 0 ≤ c ∧ c < 2 ^ k) := fun r c => by simp [semI]
    constructor
    · exact ⟨0, 0, (e _ _).mpr (by omega), rfl⟩
    · intro x y h; have := (e _ _).mp h; omega
    · exact ⟨0, 0, (e _ _).mpr (by omega), rfl⟩
    · intro x y h; have := (e _ _).mp h; omega
    · exact ⟨2 ^ k - 1, 0, (e _ _).mpr (by omega), rfl⟩
    · intro x y h; have := (e _ _).mp h; omega
    · exact ⟨0, 2 ^ k - 1, (e _ _).mpr (by omega), rfl⟩
    · intro x y h; have := (e _ _).mp h; omega
  | @nd x a b c d ta tb tc td hr da db dc dd =>
    have hd : Den T (x + 2) (.nd ta tb tc td) := .nd hr da db dc dd
    rw [if_neg (fun z => by have := of_decide_eq_true z; omega), if_neg (fun z => by have := of_decide_eq_true z; omega)]
    simp only [hp]
    walk_at "QT"
    refine ⟨_, cf_ends, kvs, dkv_dn hdc (isN_tupI [((x + 2 : Nat) : Int), ((k : Nat) : Int)]), ?_⟩
    cases hg : dgetL kvs (.tup [.int ((x + 2 : Nat) : Int), .int ((k : Nat) : Int)]) with
    | some v =>
      simp only [Option.isSome_some]
      walk_at "QT"
      refine ⟨_, cf_ends, kvs, dkv_dn hdc (isN_tupI [((x + 2 : Nat) : Int), ((k : Nat) : Int)]), v, hg, ?_⟩
      exact cl_of (q v kvs G (hm.val _ _ _ _ hd hg) hm hc (SameBut.refl _ _))
    | none =>
      simp only [Option.isSome_none]
      walk_at "QT"
      refine ⟨cf_eq, p, T, ea, kvs, x + 2, k, .nd ta tb tc td, rfl, hc, hm, ok, hT, hd, by omega, hht, hk, hk13, fun v kvs' G1 hv hm1 hc1 s1 => ?_⟩
      obtain ⟨⟨b1, b2, b4, hp1⟩, hdc1⟩ := id hc1
      simp only [hp1]
      walk_at "QT"
      have hl := hm1.len
      have hm2 := hm1.put hd hk13 hv
      refine ⟨_, cf_ends, ea, rfl, ?_⟩
      rw [hdc1]
      refine ⟨_, putO_dn (isN_tupI [((x + 2 : Nat) : Int), ((k : Nat) : Int)]) (szl2 (by omega)), ?_⟩
      rw [up_ne hc1.ne, hp1]
      walk_at "QT"
      refine ⟨_, cf_ends, _, dkv_dn up_same (isN_tupI [((x + 2 : Nat) : Int), ((k : Nat) : Int)]), v, ?_, ?_⟩
      · have := dget_dput [((x + 2 : Nat) : Int), ((k : Nat) : Int)] [((x + 2 : Nat) : Int), ((k : Nat) : Int)] v kvs'
        rw [if_pos rfl] at this
        exact this
      · exact cl_of (q v _ _ hv hm2 ⟨⟨b1, b2, b4, by rw [up_ne hc1.ne]; exact hp1⟩, up_same⟩ (s1.trans (SameBut.up (by simp))))
/-- a full cell of the four -/
theorem semI_nd {ta tb tc td : QT} {k : Nat} {r c : Int} : (semI (.nd ta tb tc td) (k + 1) r c = true) ↔ semI ta k r c = true ∨ semI tb k r (c - 2 ^ k) = true ∨ semI tc k (r - 2 ^ k) c = true ∨ semI td k (r - 2 ^ k) (c - 2 ^ k) = true := by
  show ((semI ta k r c || semI tb k r (c - 2 ^ k) || semI tc k (r - 2 ^ k) c || semI td k (r - 2 ^ k) (c - 2 ^ k)) = true) ↔ _
  simp only [Bool.or_eq_true, or_assoc]
theorem den_some {T : Rws} (ok : OkR T) {x : Nat} {t : QT} (h : Den T x t) : x ≠ 0 → ∀ k, ht t ≤ k → ∃ r c, semI t k r c = true := by
  induction h with
  | z => intro h; exact absurd rfl h
  | o =>
    intro _ k _
    have := pow_pos' k
    refine ⟨0, 0, ?_⟩
    show (true && decide _) = true
    rw [Bool.true_and, decide_eq_true_eq]
    omega
  | @nd x a b c d ta tb tc td hr da db dc dd i1 i2 i3 i4 =>
    intro _ k hk
    have hk : 1 + max (max (ht ta) (ht tb)) (max (ht tc) (ht td)) ≤ k := hk
    obtain ⟨j, rfl⟩ : ∃ j, k = j + 1 := ⟨k - 1, by omega⟩
    obtain ⟨_, _, z, _⟩ := ok.ok _ _ hr
    by_cases ha : a = 0
    · by_cases hb : b = 0
      · by_cases hc : c = 0
        · by_cases hd : d = 0
          · exact absurd (by rw [ha, hb, hc, hd]) z
          · obtain ⟨r, c, h⟩ := i4 hd j (by omega)
            exact ⟨r + 2 ^ j, c + 2 ^ j, semI_nd.mpr (.inr (.inr (.inr (by rw [Int.add_sub_cancel, Int.add_sub_cancel]; exact h))))⟩
        · obtain ⟨r, c, h⟩ := i3 hc j (by omega)
          exact ⟨r + 2 ^ j, c, semI_nd.mpr (.inr (.inr (.inl (by rw [Int.add_sub_cancel]; exact h))))⟩
      · obtain ⟨r, c, h⟩ := i2 hb j (by omega)
        exact ⟨r, c + 2 ^ j, semI_nd.mpr (.inr (.inl (by rw [Int.add_sub_cancel]; exact h)))⟩
    · obtain ⟨r, c, h⟩ := i1 ha j (by omega)
      exact ⟨r, c, semI_nd.mpr (.inl h)⟩
theorem b_Counts_eoq {C : Addr} {N : Nat} {so : DSp} (hso : ∀ j, N = j + 1 → so = sp_Counts_ends_in C j) {ds : List D} {G : DG} {Q : DQ} {E : DX} (h : sp_Counts_eoq C N ds G Q E) : R_Counts_ends_of_quarters C (sp_Counts_quarters C) so { nx := fun _ G' => cl Q .non G', rt := cl Q } (startD 12 ds) G := by
  obtain ⟨p, T, ea, kvs, x, k, t, rfl, hc, hm, ok, hT, hd, hx2, hht, hk, hk13, q⟩ := h
  unfold R_Counts_ends_of_quarters
  walk_at "QT"
  cases hd with
  | z => omega
  | o => omega
  | @nd x a b c d ta tb tc td hr da db dc dd =>
    have hd : Den T (x + 2) (.nd ta tb tc td) := .nd hr da db dc dd
    have hht' : 1 + max (max (ht ta) (ht tb)) (max (ht tc) (ht td)) ≤ k := hht
    obtain ⟨k, rfl⟩ : ∃ j, k = j + 1 := ⟨k - 1, by omega⟩
    obtain ⟨N, rfl⟩ : ∃ j, N = j + 1 := ⟨N - 1, by omega⟩
    rw [hso N rfl]
    have ek : (((k + 1 : Nat) : Int) - 1) = ((k : Nat) : Int) := by omega
    rw [ek]
    have hpw : (1 : Int) * 2 ^ (((k : Nat) : Int).toNat) = 2 ^ k := by rw [Int.one_mul, Int.toNat_natCast]
    rw [hpw]
    have hp0 := pow_pos' k
    have hp12 := pow_le_pow' (show k ≤ 12 by omega)
    refine ⟨⟨by omega, by omega, by decide⟩, fun l hl => ?_⟩
    have hc0 := hc.same (SameBut.up (o := .lst []) (List.mem_singleton.mpr rfl)) (by
      obtain ⟨⟨a1, a2, a4, hp⟩, hd⟩ := hc
      simpa using ne_new hp hl) (by simpa using ne_new hc.dct hl)
    obtain ⟨⟨a1, a2, a4, hp⟩, hdc⟩ := id hc0
    simp only [hp]
    walk_at "QT"
    refine ⟨cf_q, p, T, ea, kvs, x + 2, [a, b, c, d], rfl, hc0, by omega, hr, ?_⟩
    simp only [rowD_tup]
    walk_at "QT"
    let qP : Nat → Int → Int → Prop := fun i r c => match i with
      | 0 => semI ta k r c = true
      | 1 => semI tb k r (c - 2 ^ k) = true
      | 2 => semI tc k (r - 2 ^ k) c = true
      | 3 => semI td k (r - 2 ^ k) (c - 2 ^ k) = true
      | _ => False
    have hall : ∀ r c, (semI (.nd ta tb tc td) (k + 1) r c = true) ↔ ∃ i, i < 4 ∧ qP i r c := fun r c => by
      rw [semI_nd]
      constructor
      · rintro (h | h | h | h)
        · exact ⟨0, by omega, h⟩
        · exact ⟨1, by omega, h⟩
        · exact ⟨2, by omega, h⟩
        · exact ⟨3, by omega, h⟩
      · rintro ⟨i, hi, h⟩
        match i, hi, h with
        | 0, _, h => exact .inl h
        | 1, _, h => exact .inr (.inl h)
        | 2, _, h => exact .inr (.inr (.inl h))
        | 3, _, h => exact .inr (.inr (.inr h))
    have data : ∀ i y, [a, b, c, d][i]? = some y → i < 4 ∧ ∃ t', Den T y t' ∧ ht t' ≤ k ∧ ∀ r c : Int, qP i r c ↔ semI t' k (r - 2 ^ k * (((i : Nat) : Int) / 2)) (c - 2 ^ k * (((i : Nat) : Int) % 2)) = true := fun i y hy => by
      match i, hy with
      | 0, hy => cases hy; exact ⟨by omega, ta, da, by omega, fun r c => by simp [qP]⟩
      | 1, hy =>
        cases hy
        refine ⟨by omega, tb, db, by omega, fun r c => ?_⟩
        have e1 : ((1 : Nat) : Int) / 2 = 0 := by decide
        have e2 : ((1 : Nat) : Int) % 2 = 1 := by decide
        rw [e1, e2, Int.mul_zero, Int.mul_one, Int.sub_zero]
        exact Iff.rfl
      | 2, hy =>
        cases hy
        refine ⟨by omega, tc, dc, by omega, fun r c => ?_⟩
        have e1 : ((2 : Nat) : Int) / 2 = 1 := by decide
        have e2 : ((2 : Nat) : Int) % 2 = 0 := by decide
        rw [e1, e2, Int.mul_zero, Int.mul_one, Int.sub_zero]
        exact Iff.rfl
      | 3, hy =>
        cases hy
        refine ⟨by omega, td, dd, by omega, fun r c => ?_⟩
        have e1 : ((3 : Nat) : Int) / 2 = 1 := by decide
        have e2 : ((3 : Nat) : Int) % 2 = 1 := by decide
        rw [e1, e2, Int.mul_one]
        exact Iff.rfl
      | i + 4, hy => simp at hy
    have hne : l ≠ ea := (ne_new hc.dct hl).symm
    have npl : p ≠ l := by
      obtain ⟨⟨_, _, _, hp'⟩, _⟩ := hc
      exact ne_new hp' hl
    refine feach_inv (fun pre τ G' => ∃ o5 o6 o7 o8 o9, τ = [some (.ref p), some (.int ((x + 2 : Nat) : Int)), some (.int ((k + 1 : Nat) : Int)), some (.int (2 ^ k)), some (.ref l), o5, o6, o7, o8, o9, none, none] ∧ ∃ (kvs' : List (D × D)) (es : List (List Int)), CntAt C p T ea kvs' G' ∧ MemoE T kvs' ∧ SameBut [ea, l] G G' ∧ G' l = some (.lst (es.map tupI)) ∧ es.length ≤ pre.length ∧
      (∀ e ∈ es, ∃ i, i < 4 ∧ ∃ a b c d, e = [a, b, c, d] ∧ BoundsP (qP i) a b c d) ∧ (∀ i, i < pre.length → (∀ r c, ¬ qP i r c) ∨ ∃ e ∈ es, ∃ a b c d, e = [a, b, c, d] ∧ BoundsP (qP i) a b c d)) ?_ ?_ ?_ ?_
    · exact ⟨none, none, none, none, none, rfl, kvs, [], hc0, hm, SameBut.up (by simp), up_same, Nat.le_refl _, (fun e he => by cases he), fun i hi => absurd hi (Nat.not_lt_zero _)⟩
    · exact fun _ _ _ _ => trivial
    · rintro pre x1 post τ G1 e ⟨o5, o6, o7, o8, o9, rfl, kvs1, es, hc1, hm1, s1, hl1, el, ein, eall⟩
      have hi : (enumD [D.int ((a : Nat) : Int), D.int ((b : Nat) : Int), D.int ((c : Nat) : Int), D.int ((d : Nat) : Int)])[pre.length]? = some x1 := by
        rw [e, List.getElem?_append_right (Nat.le_refl _), Nat.sub_self]; rfl
      obtain ⟨y0, hy0, rfl⟩ := enumD_get hi
      obtain ⟨y, hy, rfl⟩ : ∃ y, [a, b, c, d][pre.length]? = some y ∧ y0 = .int ((y : Nat) : Int) := by
        have : ([a, b, c, d].map fun (y : Nat) => D.int ((y : Nat) : Int))[pre.length]? = some y0 := hy0
        rw [List.getElem?_map] at this
        cases h : [a, b, c, d][pre.length]? with
        | none => rw [h] at this; cases this
        | some y => rw [h] at this; exact ⟨y, rfl, (Option.some.inj this).symm⟩
      obtain ⟨hi4, t', dt', ht', hq⟩ := data _ _ hy
      refine ⟨_, rfl, fun K hK => ?_⟩
      obtain ⟨⟨b1, b2, b4, hp1⟩, hdc1⟩ := id hc1
      walk_at "QT"
      simp only [hp1]
      walk_at "QT"
      rw [ek]
      refine ⟨cf_ei, p, T, ea, kvs1, y, k, t', rfl, hc1, hm1, ok, hT, dt', ht', by omega, by omega, fun v kvs2 G2 hv hm2 hc2 s2 => ?_⟩
      have hl2 : G2 l = some (.lst (es.map tupI)) := by rw [s2 l (by simpa using hne)]; exact hl1
      have s2' : SameBut [ea, l] G G2 := s1.trans fun b hb => s2 b (by simp at hb ⊢; exact hb.1)
      walk_at "QT"
      rcases hv with ⟨e0, hno⟩ | ⟨va, vb, vc, ve, e0, hb⟩
      · subst e0
        walk_at "QT"
        refine hK _ _ ⟨_, _, _, _, _, rfl, kvs2, es, hc2, hm2, s2', hl2, by simp; omega, ein, fun i hi => ?_⟩
        by_cases h : i < pre.length
        · exact eall i h
        · have : i = pre.length := by simp at hi; omega
          subst this
          exact .inl fun r c z => hno _ _ ((hq r c).mp z)
      · subst e0
        simp only [tupI]
        walk_at "QT"
        generalize hdn : (2 : Int) ^ k * (((pre.length : Nat) : Int) / 2) = dn at *
        generalize hrt : (2 : Int) ^ k * (((pre.length : Nat) : Int) % 2) = rt at *
        have hbox : BoundsP (qP pre.length) (va + dn) (vb + rt) (vc + dn) (ve + rt) := by
          have back : ∀ r c, semI t' k r c = true → qP pre.length (r + dn) (c + rt) := fun r c h => (hq _ _).mpr (by rw [Int.add_sub_cancel, Int.add_sub_cancel]; exact h)
          have fwd : ∀ r c, qP pre.length r c → semI t' k (r - dn) (c - rt) = true := fun r c h => (hq _ _).mp h
          constructor
          · obtain ⟨r, c, h, e⟩ := hb.a1; exact ⟨_, _, back r c h, by rw [e]⟩
          · intro r c h; have := hb.a2 _ _ (fwd r c h); omega
          · obtain ⟨r, c, h, e⟩ := hb.b1; exact ⟨_, _, back r c h, by rw [e]⟩
          · intro r c h; have := hb.b2 _ _ (fwd r c h); omega
          · obtain ⟨r, c, h, e⟩ := hb.c1; exact ⟨_, _, back r c h, by rw [e]⟩
          · intro r c h; have := hb.c2 _ _ (fwd r c h); omega
          · obtain ⟨r, c, h, e⟩ := hb.d1; exact ⟨_, _, back r c h, by rw [e]⟩
          · intro r c h; have := hb.d2 _ _ (fwd r c h); omega
        simp only [hl2]
        walk_at "QT"
        refine ⟨⟨by decide, by decide⟩, cmulL (by omega) (by omega), by decide, cmulL (by omega) (by omega), ⟨_, rfl⟩, szl (by simp; omega), hK _ _ ⟨_, _, _, _, _, rfl, kvs2, es ++ [[va + dn, vb + rt, vc + dn, ve + rt]], hc2.same (SameBut.up (List.mem_singleton.mpr rfl)) (by simpa using npl) (by simpa using hne.symm), hm2, s2'.trans (SameBut.up (by simp)), ?_, by simp; omega, fun e he => ?_, fun i hi => ?_⟩⟩
        · rw [up_same, List.map_append]; rfl
        · rcases List.mem_append.mp he with he | he
          · exact ein e he
          · exact ⟨pre.length, hi4, _, _, _, _, List.mem_singleton.mp he, hbox⟩
        · by_cases h : i < pre.length
          · rcases eall i h with h | ⟨e, he, h⟩
            · exact .inl h
            · exact .inr ⟨e, List.mem_append_left _ he, h⟩
          · have : i = pre.length := by simp at hi; omega
            subst this
            exact .inr ⟨_, by simp, _, _, _, _, rfl, hbox⟩
    · rintro τ G1 ⟨o5, o6, o7, o8, o9, rfl, kvs1, es, hc1, hm1, s1, hl1, el, ein, eall⟩
      walk_at "QT"
      rw [enumD_length] at el eall
      have el4 : es.length ≤ 4 := el
      have e4 : ∀ e ∈ es, ∃ a b c d, e = [a, b, c, d] := fun e he => by
        obtain ⟨i, _, a, b, c, d, h, _⟩ := ein e he
        exact ⟨a, b, c, d, h⟩
      have some1 : ∃ r c, semI (.nd ta tb tc td) (k + 1) r c = true := den_some ok hd (by omega) (k + 1) (by omega)
      have esne : 0 < es.length := by
        obtain ⟨r, c, h⟩ := some1
        obtain ⟨i, hi, hq⟩ := (hall r c).mp h
        rcases eall i hi with h | ⟨e, he, _⟩
        · exact absurd hq (h r c)
        · exact List.length_pos_of_mem he
      let τ0 : Option D → DSt := fun o10 => [some (.ref p), some (.int ((x + 2 : Nat) : Int)), some (.int ((k + 1 : Nat) : Int)), some (.int (2 ^ k)), some (.ref l), o5, o6, o7, o8, o9, o10, none]
      have col : ∀ (o10 : Option D) (j : Nat) (Gx : DG) (cc : Addr) (K : DG → Prop), j < 4 → Gx l = some (.lst (es.map tupI)) → Gx cc = none → K (up Gx cc (.lst ((es.map fun e => e.getD j 0).map D.int))) →
          lceach (.nm 11) dYes (dOp iIxF (dVar 11) (dC (.int ((j : Nat) : Int)))) [11] (τ0 o10) (fun G' => G' l = some (.lst (es.map tupI))) cc K (es.map tupI) (up Gx cc (.lst [])) := fun o10 j Gx cc K hj hgl hcc hK => by
        let f : D → Option D := fun d => match d with | .tup ds => ds[j]? | _ => none
        have hf : (es.map tupI).filterMap f = (es.map fun e => e.getD j 0).map D.int := by
          rw [List.map_map]
          refine fm_map fun e he => ?_
          obtain ⟨a, b, c, d, rfl⟩ := e4 e he
          show ([a, b, c, d].map D.int)[j]? = _
          have : j = 0 ∨ j = 1 ∨ j = 2 ∨ j = 3 := by omega
          rcases this with e | e | e | e <;> subst e <;> rfl
        refine lceach_pure f hcc (fun G2 e2 => e2 _ _ hgl) (fun d hd => ?_) ?_ ?_
        · obtain ⟨e, he, rfl⟩ := List.mem_map.mp hd
          obtain ⟨a, b, c, d, rfl⟩ := e4 e he
          refine ⟨_, rfl, fun G2 e2 Kt Kf hk => ?_⟩
          have hk' : (match ([a, b, c, d].map D.int)[j]? with | some y => Kt y G2 | none => Kf G2) := hk
          simp only [tupI, τ0]
          walk_at "QT"
          have : j = 0 ∨ j = 1 ∨ j = 2 ∨ j = 3 := by omega
          rcases this with e | e | e | e <;> subst e
          · exact ⟨_, atI_nat (i := 0) rfl, hk'⟩
          · exact ⟨_, atI_nat (i := 1) rfl, hk'⟩
          · exact ⟨_, atI_nat (i := 2) rfl, hk'⟩
          · exact ⟨_, atI_nat (i := 3) rfl, hk'⟩
        · rw [hf]; exact sze (by simp; omega)
        · rw [hf]; exact hK
      rw [hl1]
      refine ⟨_, seqO_lst, fun c0 hc0' => col _ 0 G1 c0 _ (by omega) hl1 hc0' ?_⟩
      walk_at "QT"
      rw [del_up hc0']
      refine ⟨_, rfl, by simpa using esne, fun m0 m0a m0b => ?_⟩
      rw [hl1]
      refine ⟨_, seqO_lst, fun c1 hc1' => col _ 1 G1 c1 _ (by omega) hl1 hc1' ?_⟩
      walk_at "QT"
      rw [del_up hc1']
      refine ⟨_, rfl, by simpa using esne, fun m1 m1a m1b => ?_⟩
      rw [hl1]
      refine ⟨_, seqO_lst, fun c2 hc2' => col _ 2 G1 c2 _ (by omega) hl1 hc2' ?_⟩
      walk_at "QT"
      rw [del_up hc2']
      refine ⟨_, rfl, by simpa using esne, fun m2 m2a m2b => ?_⟩
      rw [hl1]
      refine ⟨_, seqO_lst, fun c3 hc3' => col _ 3 G1 c3 _ (by omega) hl1 hc3' ?_⟩
      walk_at "QT"
      rw [del_up hc3']
      refine ⟨_, rfl, by simpa using esne, fun m3 m3a m3b => ?_⟩
      walk_at "QT"
      have emem : ∀ (j : Nat) (v : Int), v ∈ es.map (fun e => e.getD j 0) → ∃ e ∈ es, e.getD j 0 = v := fun j v h => by
        obtain ⟨e, he, h⟩ := List.mem_map.mp h
        exact ⟨e, he, h⟩
      have ele : ∀ (j : Nat) (e : List Int), e ∈ es → e.getD j 0 ∈ es.map (fun e => e.getD j 0) := fun j e he => List.mem_map.mpr ⟨e, he, rfl⟩
      have bd : BoundsP (fun r c => semI (.nd ta tb tc td) (k + 1) r c = true) m0 m1 m2 m3 := by
        have inq : ∀ r c, semI (.nd ta tb tc td) (k + 1) r c = true → ∃ e ∈ es, ∃ i, i < 4 ∧ qP i r c ∧ ∃ a b c d, e = [a, b, c, d] ∧ BoundsP (qP i) a b c d := fun r c h => by
          obtain ⟨i, hi, hq⟩ := (hall r c).mp h
          rcases eall i hi with h | ⟨e, he, h⟩
          · exact absurd hq (h r c)
          · exact ⟨e, he, i, hi, hq, h⟩
        constructor
        · obtain ⟨e, he, hv⟩ := emem 0 _ m0a
          obtain ⟨i, hi, a, b, c, d, rfl, hb⟩ := ein e he
          obtain ⟨r, c, h, e1⟩ := hb.a1
          exact ⟨r, c, (hall r c).mpr ⟨i, hi, h⟩, e1.trans hv⟩
        · intro r c h
          obtain ⟨e, he, i, hi, hq, a, b, c', d, rfl, hb⟩ := inq r c h
          exact Int.le_trans (m0b _ (ele 0 _ he)) (hb.a2 r c hq)
        · obtain ⟨e, he, hv⟩ := emem 1 _ m1a
          obtain ⟨i, hi, a, b, c, d, rfl, hb⟩ := ein e he
          obtain ⟨r, c, h, e1⟩ := hb.b1
          exact ⟨r, c, (hall r c).mpr ⟨i, hi, h⟩, e1.trans hv⟩
        · intro r c h
          obtain ⟨e, he, i, hi, hq, a, b, c', d, rfl, hb⟩ := inq r c h
          exact Int.le_trans (m1b _ (ele 1 _ he)) (hb.b2 r c hq)
        · obtain ⟨e, he, hv⟩ := emem 2 _ m2a
          obtain ⟨i, hi, a, b, c, d, rfl, hb⟩ := ein e he
          obtain ⟨r, c, h, e1⟩ := hb.c1
          exact ⟨r, c, (hall r c).mpr ⟨i, hi, h⟩, e1.trans hv⟩
        · intro r c h
          obtain ⟨e, he, i, hi, hq, a, b, c', d, rfl, hb⟩ := inq r c h
          exact Int.le_trans (hb.c2 r c hq) (m2b _ (ele 2 _ he))
        · obtain ⟨e, he, hv⟩ := emem 3 _ m3a
          obtain ⟨i, hi, a, b, c, d, rfl, hb⟩ := ein e he
          obtain ⟨r, c, h, e1⟩ := hb.d1
          exact ⟨r, c, (hall r c).mpr ⟨i, hi, h⟩, e1.trans hv⟩
        · intro r c h
          obtain ⟨e, he, i, hi, hq, a, b, c', d, rfl, hb⟩ := inq r c h
          exact Int.le_trans (hb.d2 r c hq) (m3b _ (ele 3 _ he))
      refine ⟨sze (by simp), cl_less (G' := del G1 l) (fun b o eb => ?_) (q _ kvs1 _ (.inr ⟨m0, m1, m2, m3, rfl, bd⟩) hm1 ?_ fun b hb => ?_)⟩
      · by_cases h : b = l
        · subst h; rw [del_same] at eb; cases eb
        · rw [del_ne h] at eb; exact eb
      · obtain ⟨⟨b1, b2, b4, hp1⟩, hdc1⟩ := hc1
        exact ⟨⟨b1, b2, b4, by rw [del_ne npl]; exact hp1⟩, by rw [del_ne hne.symm]; exact hdc1⟩
      · by_cases h : b = l
        · subst h; rw [del_same, hl]
        · rw [del_ne h]
          simp at hb
          exact s1 b (by simp; exact ⟨hb, h⟩)
def sp_Counts_init (C : Addr) : DSp := fun ds G Q _ => ∃ (p : Addr) (n : Int) (x : Nat) (T : Rws), ds = [.ref p, tellD n x T] ∧ G p = some (.ins C []) ∧ ∀ G' ea, CntAt C p T ea [] G' → G ea = none → (∀ b o, G b = some o → b ≠ p → G' b = some o) → Q .non G'
theorem pC1 {x : D} : putD "rows" x [] = [(("rows" : Str), x)] := rfl
theorem pC2 {x y : D} : putD "leaves" y [(("rows" : Str), x)] = [(("rows" : Str), x), (("leaves" : Str), y)] := rfl
theorem pC3 {x y z : D} : putD "sums" z [(("rows" : Str), x), (("leaves" : Str), y)] = [(("rows" : Str), x), (("leaves" : Str), y), (("sums" : Str), z)] := rfl
theorem pC4 {x y z w : D} : putD "ends" w [(("rows" : Str), x), (("leaves" : Str), y), (("sums" : Str), z)] = [(("rows" : Str), x), (("leaves" : Str), y), (("sums" : Str), z), (("ends" : Str), w)] := rfl
theorem pC5 {x y z w v : D} : putD "parted" v [(("rows" : Str), x), (("leaves" : Str), y), (("sums" : Str), z), (("ends" : Str), w)] = [(("rows" : Str), x), (("leaves" : Str), y), (("sums" : Str), z), (("ends" : Str), w), (("parted" : Str), v)] := rfl
theorem b_Counts_init {C : Addr} {ds : List D} {G : DG} {Q : DQ} {E : DX} (h : sp_Counts_init C ds G Q E) : R_Counts_init C { nx := fun _ G' => cl Q .non G', rt := cl Q } (startD 2 ds) G := by
  obtain ⟨p, n, x, T, rfl, hp, k⟩ := h
  unfold R_Counts_init
  simp only [tellD]
  walk_at "QT"
  simp only [hp]
  walk_at "QT"
  rw [pC1]
  refine ⟨by decide, fun a1 h1 => ?_⟩
  have n1 : p ≠ a1 := fun e => by subst e; rw [up_same] at h1; cases h1
  have h1' := h1
  rw [up_ne n1.symm] at h1'
  simp only [up_ne n1, up_same]
  walk_at "QT"
  rw [pC2]
  refine ⟨by decide, fun a2 h2 => ?_⟩
  have n2 : p ≠ a2 := fun e => by subst e; rw [up_same] at h2; cases h2
  simp only [up_ne n2, up_same]
  walk_at "QT"
  rw [pC3]
  refine ⟨by decide, fun a3 h3 => ?_⟩
  have n3 : p ≠ a3 := fun e => by subst e; rw [up_same] at h3; cases h3
  simp only [up_ne n3, up_same]
  walk_at "QT"
  rw [pC4]
  refine ⟨by decide, fun a4 h4 => ?_⟩
  have n4 : p ≠ a4 := fun e => by subst e; rw [up_same] at h4; cases h4
  simp only [up_ne n4, up_same]
  walk_at "QT"
  rw [pC5]
  refine ⟨by decide, cl_of (k _ a3 ⟨⟨a1, a2, a4, up_same⟩, ?_⟩ ?_ fun b o hb nb => ?_)⟩
  · have n34 : a3 ≠ a4 := fun e => by
      subst e
      rw [up_ne n3.symm, up_same] at h4
      cases h4
    rw [up_ne n3.symm, up_ne n34, up_ne n3.symm, up_same]
  · cases hb : G a3 with
    | none => rfl
    | some o =>
      exfalso
      have nb : a3 ≠ p := n3.symm
      have x1 : a3 ≠ a1 := ne_new hb h1'
      have g1 : (up (up G p (.ins C [(("rows" : Str), .tup (T.map rowD))])) a1 (.dk [(.int 0, .int 1), (.int 1, .int 1)])) a3 = some o := by rw [up_ne x1, up_ne nb]; exact hb
      have g1' : (up (up (up G p (.ins C [(("rows" : Str), .tup (T.map rowD))])) a1 (.dk [(.int 0, .int 1), (.int 1, .int 1)])) p (.ins C [(("rows" : Str), .tup (T.map rowD)), (("leaves" : Str), .ref a1)])) a3 = some o := by rw [up_ne nb]; exact g1
      have x2 : a3 ≠ a2 := ne_new g1' h2
      exact (ne_new (a := a3) (b := a3) (by rw [up_ne nb, up_ne x2]; exact g1') h3) rfl
  · have x1 : b ≠ a1 := ne_new hb h1'
    have g1 : (up (up G p (.ins C [(("rows" : Str), .tup (T.map rowD))])) a1 (.dk [(.int 0, .int 1), (.int 1, .int 1)])) b = some o := by rw [up_ne x1, up_ne nb]; exact hb
    have e2 : ∀ (G : DG) (a : Addr) (u v : DO), b ≠ a → G b = some o → up (up G a u) p v b = some o := fun G a u v h g => by rw [up_ne nb, up_ne h]; exact g
    have g1' : (up (up (up G p (.ins C [(("rows" : Str), .tup (T.map rowD))])) a1 (.dk [(.int 0, .int 1), (.int 1, .int 1)])) p (.ins C [(("rows" : Str), .tup (T.map rowD)), (("leaves" : Str), .ref a1)])) b = some o := by rw [up_ne nb]; exact g1
    have x2 : b ≠ a2 := ne_new g1' h2
    have g2 := e2 _ a2 (.dn []) (.ins C [(("rows" : Str), .tup (T.map rowD)), (("leaves" : Str), .ref a1), (("sums" : Str), .ref a2)]) x2 g1'
    have x3 : b ≠ a3 := ne_new g2 h3
    have g3 := e2 _ a3 (.dn []) (.ins C [(("rows" : Str), .tup (T.map rowD)), (("leaves" : Str), .ref a1), (("sums" : Str), .ref a2), (("ends" : Str), .ref a3)]) x3 g2
    have x4 : b ≠ a4 := ne_new g3 h4
    exact e2 _ a4 _ _ x4 g3
def semP (t : QT) (n : Nat) (r c : Int) : Prop := semI t n r c = true
def sp_bounds : DSp := fun ds G Q _ => ∃ (n x : Nat) (T : Rws) (t : QT), ds = [tellD ((n : Nat) : Int) x T] ∧ Canon n x T t ∧ n ≤ 12 ∧ T.length ≤ 100000 ∧ ∀ d, EndV (semP t n) d → Q d G
theorem b_bounds {C : Addr} {ds : List D} {G : DG} {Q : DQ} {E : DX} (h : sp_bounds ds G Q E) : R_bounds C sp_want_shape (sp_Counts_init C) (sp_Counts_ends_in C 12) { nx := fun _ G' => cl Q .non G', rt := cl Q } (startD 1 ds) G := by
  obtain ⟨n, x, T, t, rfl, c, hn, hT, q⟩ := h
  unfold R_bounds
  walk_at "QT"
  refine ⟨n, x, T, t, rfl, c, hn, szl2 (by omega), ?_⟩
  walk_at "QT"
  intro p hp
  refine ⟨p, ((n : Nat) : Int), x, T, rfl, up_same, fun G1 ea hc hea he => ⟨rfl, ?_⟩⟩
  obtain ⟨⟨a1, a2, a4, hp1⟩, hdc⟩ := id hc
  simp only [tellD]
  walk_at "QT"
  rw [hp1]
  refine ⟨_, rfl, cf_ei, p, T, ea, [], x, n, t, rfl, hc, ⟨⟨[], rfl, List.nodup_nil, fun t ht => by cases ht⟩, fun x k t d _ g => by cases g⟩, c.ok, hT, c.den, c.ht, hn, by omega, fun d kvs' G2 hd hm hc2 s2 => ?_⟩
  refine cl_less (fun b o eb => ?_) (q d hd)
  have nb := ne_new eb hp
  have e1 := he b o (by rw [up_ne nb]; exact eb) nb
  have nea : b ≠ ea := fun e => by
    subst e
    rw [up_ne nb] at hea
    rw [hea] at eb
    cases eb
  rw [s2 b (by simpa using nea)]
  exact e1
def sp_moves_of : DSp := fun ds G Q _ => ∃ (n x : Nat) (T : Rws) (t : QT), ds = [tellD ((n : Nat) : Int) x T] ∧ Canon n x T t ∧ n ≤ 7 ∧ T.length ≤ 100000 ∧ ((∀ r c, ¬ semP t n r c) → Q (.lst [tupI [0, 0]]) G) ∧ ∀ a b c d, BoundsP (semP t n) a b c d → Q (.lst ((movesL a b c d (2 ^ n)).map tupI)) G
theorem b_moves_of {ds : List D} {G : DG} {Q : DQ} {E : DX} (h : sp_moves_of ds G Q E) : R_moves_of sp_bounds { nx := fun _ G' => cl Q .non G', rt := cl Q } (startD 6 ds) G := by
  obtain ⟨n, x, T, t, rfl, c, hn, hT, q0, q1⟩ := h
  unfold R_moves_of
  walk_at "QT"
  refine ⟨n, x, T, t, rfl, c, by omega, hT, fun v hv => ?_⟩
  rcases hv with ⟨rfl, hno⟩ | ⟨a, b, c', d, rfl, hb⟩
  · walk_at "QT"
    exact cl_of (q0 hno)
  · simp only [tupI, tellD]
    walk_at "QT"
    have hpw : (1 : Int) * 2 ^ (((n : Nat) : Int).toNat) = 2 ^ n := by rw [Int.one_mul, Int.toNat_natCast]
    rw [hpw]
    have hp0 := pow_pos' n
    have hp7 := pow_le_pow' hn
    refine ⟨⟨by omega, by omega, by decide⟩, fun l hl => ?_⟩
    obtain ⟨ra, ca, ha, ea⟩ := hb.a1
    obtain ⟨rb, cb, hb', eb⟩ := hb.b1
    obtain ⟨rc, cc, hc, ec⟩ := hb.c1
    obtain ⟨rd, cd, hd, ed⟩ := hb.d1
    have ia := semI_in _ _ _ _ ha
    have ib := semI_in _ _ _ _ hb'
    have ic := semI_in _ _ _ _ hc
    have id := semI_in _ _ _ _ hd
    have hac : a ≤ c' := by have := hb.c2 _ _ ha; omega
    have hbd : b ≤ d := by have := hb.d2 _ _ hb'; omega
    refine ⟨⟨by omega, by omega, by omega, by omega⟩, ?_⟩
    rw [rangeD_I]
    refine feach_inv (fun pre τ G' => ∃ o4, τ = [some (tellD ((n : Nat) : Int) x T), some (.tup [.int a, .int b, .int c', .int d]), some (.int (2 ^ n)), some (.ref l), o4, none] ∧ ∃ ps : List Int, pre = ps.map D.int ∧ G' = up G l (.lst ((ps.flatMap fun dn => (rangeI (-b) (2 ^ n - d)).map fun rt => [dn, rt]).map tupI))) ?_ ?_ ?_ ?_
    · exact ⟨none, rfl, [], rfl, rfl⟩
    · exact fun _ _ _ _ => trivial
    · rintro pre x1 post τ G' e ⟨o4, rfl, ps, rfl, rfl⟩
      have hx : x1 ∈ (rangeI (-a) (2 ^ n - c')).map D.int := by rw [e]; simp
      obtain ⟨dn, hdn, rfl⟩ := List.mem_map.mp hx
      have pl : ps.length < (2 ^ n - c' - -a).toNat := by
        have := congrArg List.length e
        rw [List.length_map, rangeI_length] at this
        simp at this
        omega
      refine ⟨_, rfl, fun K hK => ?_⟩
      walk_at "QT"
      refine ⟨⟨_, rfl⟩, ⟨by omega, by omega, by omega, by omega⟩, fun l2 hl2 => ?_⟩
      rw [rangeD_I]
      have f1 : ((rangeI (-b) (2 ^ n - d)).map D.int).filterMap (fun x => match x with | .int rt => some (tupI [dn, rt]) | _ => none) = ((rangeI (-b) (2 ^ n - d)).map fun rt => [dn, rt]).map tupI := by
        rw [List.map_map]
        exact fm_map fun p _ => rfl
      refine lceach_pure (fun x => match x with | .int rt => some (tupI [dn, rt]) | _ => none) hl2 (fun _ _ => trivial) (fun y hy => ?_) ?_ ?_
      · obtain ⟨rt, hrt, rfl⟩ := List.mem_map.mp hy
        refine ⟨_, rfl, fun G2 e2 Kt Kf hk => ?_⟩
        walk_at "QT"
        exact hk
      · rw [f1]
        exact sze (by simp [rangeI_length]; omega)
      rw [f1]
      walk_at "QT"
      rw [del_up hl2]
      have big : ((ps.flatMap fun dn => (rangeI (-b) (2 ^ n - d)).map fun rt => [dn, rt]).map tupI).length ≤ 128 * 128 := by
        rw [List.length_map, List.length_flatMap]
        simp only [List.length_map, rangeI_length, sum_const]
        have h1 : ps.length ≤ 128 := by omega
        have h2 : (2 ^ n - d - -b).toNat ≤ 128 := by omega
        exact Nat.mul_le_mul h1 h2
      refine ⟨_, up_same, ?_, hK _ _ ⟨_, rfl, ps ++ [dn], by simp, ?_⟩⟩
      · have : (((rangeI (-b) (2 ^ n - d)).map fun rt => [dn, rt]).map tupI).length ≤ 128 := by simp [rangeI_length]; omega
        exact Nat.le_trans (Nat.add_le_add big this) (by decide)
      · rw [up_up, List.flatMap_append, List.map_append]
        congr 2
        simp
    · rintro τ G' ⟨o4, rfl, ps, e, rfl⟩
      walk_at "QT"
      have : ps = rangeI (-a) (2 ^ n - c') := by
        have := congrArg (List.map fun x => match x with | .int i => i | _ => 0) e
        simpa [List.map_map, Function.comp_def] using this.symm
      subst this
      exact cl_fin up_same hl (less_up hl) (q1 a b c' d hb)
/-! ### windows -/
def rowL (M : Nat → Nat → Int) (w i : Nat) : List D := (List.range w).map fun j => D.int (M i j)
structure MatAt (a : Addr) (as : List Addr) (h w : Nat) (M : Nat → Nat → Int) (G : DG) : Prop where
  top : G a = some (.lst (as.map D.ref))
  len : as.length = h
  nd : as.Nodup
  row : ∀ i x, as[i]? = some x → G x = some (.lst (rowL M w i))
  na : a ∉ as
theorem MatAt.ext {a as h w M} {G G' : DG} (m : MatAt a as h w M G) (e : Ext G G') : MatAt a as h w M G' := ⟨e _ _ m.top, m.len, m.nd, fun i x hx => e _ _ (m.row i x hx), m.na⟩
theorem rowL_congr {M M' : Nat → Nat → Int} {w i : Nat} (h : ∀ j, j < w → M i j = M' i j) : rowL M w i = rowL M' w i := by
  unfold rowL
  exact List.map_congr_left fun j hj => by rw [h j (List.mem_range.mp hj)]
theorem MatAt.congr {a as h w} {M M' : Nat → Nat → Int} {G : DG} (m : MatAt a as h w M G) (e : ∀ i j, i < h → j < w → M i j = M' i j) : MatAt a as h w M' G :=
  ⟨m.top, m.len, m.nd, fun i x hx => by
    rw [m.row i x hx]
    have hi : i < h := by rw [← m.len]; exact (List.getElem?_eq_some_iff.mp hx).1
    rw [rowL_congr fun j hj => e i j hi hj], m.na⟩
theorem rowL_get {M : Nat → Nat → Int} {w i j : Nat} (h : j < w) : (rowL M w i)[j]? = some (.int (M i j)) := by
  unfold rowL
  rw [List.getElem?_map, List.getElem?_range h]
  rfl
theorem rowL_len {M : Nat → Nat → Int} {w i : Nat} : (rowL M w i).length = w := by simp [rowL]
/-- one row filled between -/
theorem rowL_fill {M : Nat → Nat → Int} {w i : Nat} {a b : Nat} (hab : a ≤ b) (hb : b ≤ w) : (rowL M w i).take a ++ (List.replicate (b - a) [D.int 1]).flatten ++ (rowL M w i).drop b = rowL (fun i' j => if i' = i ∧ a ≤ j ∧ j < b then 1 else M i' j) w i := by
  have hf : (List.replicate (b - a) [D.int 1]).flatten = List.replicate (b - a) (D.int 1) := by
    generalize b - a = n
    induction n with
    | zero => rfl
    | succ n ih => rw [List.replicate_succ, List.flatten_cons, ih, List.replicate_succ]; rfl
  rw [hf]
  apply List.ext_getElem?
  intro j
  by_cases hj : j < w
  · rw [rowL_get hj]
    by_cases h1 : j < a
    · rw [List.getElem?_append_left (by simp [rowL_len]; omega), List.getElem?_append_left (by simp [rowL_len]; omega), List.getElem?_take, if_pos h1, rowL_get hj]
      have : ¬ (i = i ∧ a ≤ j ∧ j < b) := by omega
      rw [if_neg this]
    · by_cases h2 : j < b
      · rw [List.getElem?_append_left (by simp [rowL_len]; omega), List.getElem?_append_right (by simp [rowL_len]; omega)]
        rw [List.getElem?_replicate, if_pos (by simp [rowL_len]; omega), if_pos ⟨rfl, by omega, h2⟩]
      · rw [List.getElem?_append_right (by simp [rowL_len]; omega), List.getElem?_drop]
        have e : b + (j - ((rowL M w i).take a ++ List.replicate (b - a) (D.int 1)).length) = j := by simp [rowL_len]; omega
        rw [e, rowL_get hj, if_neg (by omega)]
  · rw [List.getElem?_eq_none (by simp [rowL_len]; omega), List.getElem?_eq_none (by simp [rowL_len]; omega)]
theorem as_get_ne {as : List Addr} (h : as.Nodup) {i j : Nat} {x y : Addr} (hi : as[i]? = some x) (hj : as[j]? = some y) (ne : i ≠ j) : x ≠ y := fun e => by
  subst e
  exact ne (nodup_ix h hi hj)
theorem MatAt.set {a as h w} {M : Nat → Nat → Int} {G : DG} (m : MatAt a as h w M G) {I : Nat} {y : Addr} (hI : as[I]? = some y) {f : Nat → Nat → Int} (hf : ∀ i j, i ≠ I → f i j = M i j) : MatAt a as h w f (up G y (.lst (rowL f w I))) := by
  have hy := List.mem_of_getElem? hI
  refine ⟨?_, m.len, m.nd, fun i x hx => ?_, m.na⟩
  · rw [up_ne (fun e => m.na (by rw [e]; exact hy))]
    exact m.top
  · by_cases hi : i = I
    · subst hi
      rw [hI] at hx
      cases hx
      exact up_same
    · rw [up_ne (as_get_ne m.nd hx hI hi), m.row i x hx]
      rw [rowL_congr fun j _ => (hf i j hi).symm]
def sp_paint (n : Nat) : DSp := fun ds G Q _ => ∃ (T : Rws) (x k : Nat) (t : QT) (r0 c0 : Nat) (a : Addr) (as : List Addr) (side : Nat) (M : Nat → Nat → Int), ds = [.tup (T.map rowD), .int ((x : Nat) : Int), .tup [.int ((r0 : Nat) : Int), .int ((c0 : Nat) : Int), .int (2 ^ k)], .ref a] ∧
  MatAt a as side side M G ∧ r0 + 2 ^ k ≤ side ∧ c0 + 2 ^ k ≤ side ∧ side ≤ 4096 ∧ OkR T ∧ Den T x t ∧ ht t ≤ k ∧ k ≤ n ∧ k ≤ 12 ∧
  ∀ G' M', MatAt a as side side M' G' → (∀ i j : Nat, i < side → j < side → M' i j = if semI t k ((i : Int) - r0) ((j : Int) - c0) = true then 1 else M i j) → SameBut as G G' → Q .non G'
theorem pow_cast (k : Nat) : ((2 ^ k : Nat) : Int) = 2 ^ k := by simp
theorem b_paint {n : Nat} {so : DSp} (hso : ∀ j, n = j + 1 → so = sp_paint j) {ds : List D} {G : DG} {Q : DQ} {E : DX} (h : sp_paint n ds G Q E) : R_paint so { nx := fun _ G' => cl Q .non G', rt := cl Q } (startD 11 ds) G := by
  obtain ⟨T, x, k, t, r0, c0, a, as, side, M, rfl, hM, hr, hc, hs, ok, hd, hht, hk, k12, q⟩ := h
  unfold R_paint
  walk_at "QT"
  have hpk := pow_cast k
  have hp0 : 0 < 2 ^ k := Nat.pow_pos (by decide)
  cases hd with
  | z =>
    rw [if_neg (by decide : ¬ decide (((0 : Nat) : Int) = 1) = true), if_neg (by decide : ¬ decide ((1 : Int) < ((0 : Nat) : Int)) = true)]
    exact cl_of (q G M hM (fun i j _ _ => by simp [semI]) (SameBut.refl _ _))
  | o =>
    rw [if_pos (by decide : decide (((1 : Nat) : Int) = 1) = true)]
    refine ⟨⟨by omega, by omega, by omega, by omega⟩, ?_⟩
    rw [rangeD_I]
    refine feach_inv (fun pre τ G' => ∃ o7, τ = [some (.tup (T.map rowD)), some (.int ((1 : Nat) : Int)), some (.tup [.int ((r0 : Nat) : Int), .int ((c0 : Nat) : Int), .int (2 ^ k)]), some (.ref a), some (.int ((r0 : Nat) : Int)), some (.int ((c0 : Nat) : Int)), some (.int (2 ^ k)), o7, none, none, none] ∧
      MatAt a as side side (fun i j => if (r0 ≤ i ∧ i < r0 + pre.length) ∧ c0 ≤ j ∧ j < c0 + 2 ^ k then 1 else M i j) G' ∧ SameBut as G G') ?_ ?_ ?_ ?_
    · refine ⟨none, rfl, hM.congr fun i j _ _ => ?_, SameBut.refl _ _⟩
      rw [if_neg (by simp; omega)]
    · exact fun _ _ _ _ => trivial
    · rintro pre d post τ G1 e ⟨o7, rfl, hM1, s1⟩
      have pl : pre.length < 2 ^ k := by
        have := congrArg List.length e
        rw [List.length_map, rangeI_length] at this
        simp at this
        omega
      have hdd : d = .int (((r0 + pre.length : Nat)) : Int) := by
        have h1 : ((rangeI ((r0 : Nat) : Int) (((r0 : Nat) : Int) + 2 ^ k)).map D.int)[pre.length]? = some d := by
          rw [e, List.getElem?_append_right (Nat.le_refl _), Nat.sub_self]; rfl
        unfold rangeI at h1
        rw [List.getElem?_map, List.getElem?_map, List.getElem?_range (by omega)] at h1
        have := Option.some.inj h1
        rw [← this]
        congr 1
      subst hdd
      have hil : r0 + pre.length < as.length := by rw [hM1.len]; omega
      have hx : as[r0 + pre.length]? = some as[r0 + pre.length] := List.getElem?_eq_getElem hil
      generalize as[r0 + pre.length] = y at hx
      have hrow := hM1.row _ _ hx
      refine ⟨_, rfl, fun K hK => ?_⟩
      walk_at "QT"
      rw [hM1.top]
      have g1 : atI (as.map D.ref) (((r0 + pre.length : Nat)) : Int) = some (.ref y) := atI_nat (by rw [List.getElem?_map, hx]; rfl)
      have t1 : (((c0 : Nat) : Int)).toNat = c0 := Int.toNat_natCast c0
      have t2 : (((c0 : Nat) : Int) + 2 ^ k).toNat = c0 + 2 ^ k := by rw [← hpk]; omega
      have t3 : ((2 : Int) ^ k).toNat = 2 ^ k := by rw [← hpk]; omega
      have k4 : 2 ^ k ≤ 4096 := by omega
      have fl : (List.replicate (2 ^ k) [D.int 1]).flatten.length = 2 ^ k := by
        generalize 2 ^ k = m
        induction m with
        | zero => rfl
        | succ m ih => rw [List.replicate_succ, List.flatten_cons, List.length_append, ih]; simp; omega
      rw [t1, t2, t3]
      refine ⟨by omega, by omega, sze (by omega), .ref y, by rw [ixO_lst]; exact g1, y, rfl, _, hrow, (fun z => nomatch z), by omega, by omega, by rw [rowL_len]; omega, by rw [rowL_len, fl]; exact sze (by omega), ?_⟩
      have hfill := rowL_fill (M := fun i j => if (r0 ≤ i ∧ i < r0 + pre.length) ∧ c0 ≤ j ∧ j < c0 + 2 ^ k then 1 else M i j) (w := side) (i := r0 + pre.length) (a := c0) (b := c0 + 2 ^ k) (by omega) hc
      rw [Nat.add_sub_cancel_left] at hfill
      rw [hfill]
      refine hK _ _ ⟨_, rfl, (hM1.set hx (f := fun i' j => if i' = r0 + pre.length ∧ c0 ≤ j ∧ j < c0 + 2 ^ k then 1 else if (r0 ≤ i' ∧ i' < r0 + pre.length) ∧ c0 ≤ j ∧ j < c0 + 2 ^ k then 1 else M i' j) fun i j hij => ?_).congr fun i j _ _ => ?_, s1.trans (SameBut.up (List.mem_of_getElem? hx))⟩
      · rw [if_neg (fun z => hij z.1)]
      · simp only [List.length_append, List.length_singleton]
        by_cases h1 : i = r0 + pre.length ∧ c0 ≤ j ∧ j < c0 + 2 ^ k
        · rw [if_pos h1, if_pos (by omega)]
        · rw [if_neg h1]
          by_cases h2 : (r0 ≤ i ∧ i < r0 + pre.length) ∧ c0 ≤ j ∧ j < c0 + 2 ^ k
          · rw [if_pos h2, if_pos (by omega)]
          · rw [if_neg h2, if_neg (by omega)]
    · rintro τ G1 ⟨o7, rfl, hM1, s1⟩
      walk_at "QT"
      rw [if_neg (by decide : ¬ decide ((1 : Int) < ((1 : Nat) : Int)) = true)]
      refine cl_of (q G1 _ hM1 (fun i j hi hj => ?_) s1)
      rw [List.length_map, rangeI_length]
      have e : (((r0 : Nat) : Int) + 2 ^ k - ((r0 : Nat) : Int)).toNat = 2 ^ k := by rw [← hpk]; omega
      rw [e]
      have : (semI (.lf true) k ((i : Int) - r0) ((j : Int) - c0) = true) ↔ ((r0 ≤ i ∧ i < r0 + 2 ^ k) ∧ c0 ≤ j ∧ j < c0 + 2 ^ k) := by
        show ((true && decide _) = true) ↔ _
        rw [Bool.true_and, decide_eq_true_eq, ← hpk]
        omega
      by_cases h : (r0 ≤ i ∧ i < r0 + 2 ^ k) ∧ c0 ≤ j ∧ j < c0 + 2 ^ k
      · rw [if_pos h, if_pos (this.mpr h)]
      · rw [if_neg h, if_neg (fun z => h (this.mp z))]
  | @nd x qa qb qc qd ta tb tc td hr' da db dc dd =>
    have hht' : 1 + max (max (ht ta) (ht tb)) (max (ht tc) (ht td)) ≤ k := hht
    obtain ⟨k, rfl⟩ : ∃ j, k = j + 1 := ⟨k - 1, by omega⟩
    obtain ⟨n, rfl⟩ : ∃ j, n = j + 1 := ⟨n - 1, by omega⟩
    rw [hso n rfl]
    rw [if_neg (fun z => by have := of_decide_eq_true z; omega), if_pos (decide_eq_true (by omega))]
    have e2 : (2 : Int) ^ (k + 1) = 2 ^ k * 2 := Int.pow_succ ..
    have hp1 := pow_pos' k
    have half : (2 : Int) ^ (k + 1) / 2 = 2 ^ k := by omega
    rw [half]
    have e1 : (((x + 2 : Nat) : Int) - 2) = ((x : Nat) : Int) := by omega
    rw [e1]
    have e3 : (T.map rowD)[x]? = some (rowD [qa, qb, qc, qd]) := by rw [List.getElem?_map, hr']; rfl
    refine ⟨⟨by decide, by decide⟩, _, atI_nat e3, ?_⟩
    simp only [rowD_tup]
    walk_at "QT"
    have eE : enumD [D.int ((qa : Nat) : Int), .int ((qb : Nat) : Int), .int ((qc : Nat) : Int), .int ((qd : Nat) : Int)] = [.tup [.int ((0 : Nat) : Int), .int ((qa : Nat) : Int)], .tup [.int ((1 : Nat) : Int), .int ((qb : Nat) : Int)], .tup [.int ((2 : Nat) : Int), .int ((qc : Nat) : Int)], .tup [.int ((3 : Nat) : Int), .int ((qd : Nat) : Int)]] := rfl
    rw [eE]
    simp only [feach]
    walk_at "QT"
    have pk : 2 ^ (k + 1) = 2 ^ k + 2 ^ k := by rw [Nat.pow_succ]; omega
    have hpk' := pow_cast k
    have hA0 : ((r0 : Nat) : Int) + 2 ^ k * (((0 : Nat) : Int) / 2) = ((r0 : Nat) : Int) := by
      rw [show ((0 : Nat) : Int) / 2 = 0 from by decide]; omega
    have hA1 : ((r0 : Nat) : Int) + 2 ^ k * (((1 : Nat) : Int) / 2) = ((r0 : Nat) : Int) := by
      rw [show ((1 : Nat) : Int) / 2 = 0 from by decide]; omega
    have hA2 : ((r0 : Nat) : Int) + 2 ^ k * (((2 : Nat) : Int) / 2) = ((r0 + 2 ^ k : Nat) : Int) := by
      rw [show ((2 : Nat) : Int) / 2 = 1 from by decide, ← hpk']; omega
    have hA3 : ((r0 : Nat) : Int) + 2 ^ k * (((3 : Nat) : Int) / 2) = ((r0 + 2 ^ k : Nat) : Int) := by
      rw [show ((3 : Nat) : Int) / 2 = 1 from by decide, ← hpk']; omega
    have hB0 : ((c0 : Nat) : Int) + 2 ^ k * (((0 : Nat) : Int) % 2) = ((c0 : Nat) : Int) := by
      rw [show ((0 : Nat) : Int) % 2 = 0 from by decide]; omega
    have hB1 : ((c0 : Nat) : Int) + 2 ^ k * (((1 : Nat) : Int) % 2) = ((c0 + 2 ^ k : Nat) : Int) := by
      rw [show ((1 : Nat) : Int) % 2 = 1 from by decide, ← hpk']; omega
    have hB2 : ((c0 : Nat) : Int) + 2 ^ k * (((2 : Nat) : Int) % 2) = ((c0 : Nat) : Int) := by
      rw [show ((2 : Nat) : Int) % 2 = 0 from by decide]; omega
    have hB3 : ((c0 : Nat) : Int) + 2 ^ k * (((3 : Nat) : Int) % 2) = ((c0 + 2 ^ k : Nat) : Int) := by
      rw [show ((3 : Nat) : Int) % 2 = 1 from by decide, ← hpk']; omega
    rw [hA0, hA1, hA2, hA3, hB0, hB1, hB2, hB3]
    have kc : ∀ z : Int, CMul (2 ^ k) z := fun z => cmulL (by omega) (by have := pow_le_pow' (show k ≤ 12 by omega); omega)
    refine ⟨⟨by decide, by decide⟩, kc _, by decide, kc _, T, qa, k, ta, r0, c0, a, as, side, M, rfl, hM, by omega, by omega, hs, ok, da, by omega, by omega, by omega, fun G1 M1 h1 e1 s1 => ?_⟩
    refine ⟨⟨by decide, by decide⟩, kc _, by decide, kc _, T, qb, k, tb, r0, c0 + 2 ^ k, a, as, side, M1, rfl, h1, by omega, by omega, hs, ok, db, by omega, by omega, by omega, fun G2 M2 h2 e2 s2 => ?_⟩
    refine ⟨⟨by decide, by decide⟩, kc _, by decide, kc _, T, qc, k, tc, r0 + 2 ^ k, c0, a, as, side, M2, rfl, h2, by omega, by omega, hs, ok, dc, by omega, by omega, by omega, fun G3 M3 h3 e3 s3 => ?_⟩
    refine ⟨⟨by decide, by decide⟩, kc _, by decide, kc _, T, qd, k, td, r0 + 2 ^ k, c0 + 2 ^ k, a, as, side, M3, rfl, h3, by omega, by omega, hs, ok, dd, by omega, by omega, by omega, fun G4 M4 h4 e4 s4 => ?_⟩
    refine cl_of (q G4 M4 h4 (fun i j hi hj => ?_) (((s1.trans s2).trans s3).trans s4))
    rw [e4 i j hi hj, e3 i j hi hj, e2 i j hi hj, e1 i j hi hj]
    have z1 : ((i : Int) - ((r0 + 2 ^ k : Nat) : Int)) = (i : Int) - r0 - 2 ^ k := by rw [← hpk']; omega
    have z2 : ((j : Int) - ((c0 + 2 ^ k : Nat) : Int)) = (j : Int) - c0 - 2 ^ k := by rw [← hpk']; omega
    rw [z1, z2]
    by_cases w1 : semI ta k ((i : Int) - r0) ((j : Int) - c0) = true <;> by_cases w2 : semI tb k ((i : Int) - r0) ((j : Int) - c0 - 2 ^ k) = true <;> by_cases w3 : semI tc k ((i : Int) - r0 - 2 ^ k) ((j : Int) - c0) = true <;> by_cases w4 : semI td k ((i : Int) - r0 - 2 ^ k) ((j : Int) - c0 - 2 ^ k) = true <;> simp [semI, w1, w2, w3, w4]
def lookV (F : Int → Int → Bool) : Nat → Int → Int → Int
  | 0, r, c => if F r c = true then 1 else 0
  | k + 1, r, c => if lookV F k r c = lookV F k r (c + 2 ^ k) ∧ lookV F k r c = lookV F k (r + 2 ^ k) c ∧ lookV F k r c = lookV F k (r + 2 ^ k) (c + 2 ^ k) then lookV F k r c else 2
/-- windows of size s on a floor of side: their looks in rows at a -/
structure WinAt (C p : Addr) (s : Nat) (a : Addr) (as : List Addr) (h : Nat) (F : Int → Int → Bool) (G : DG) : Prop where
  ins : G p = some (.ins C [(("size" : Str), .int ((s : Nat) : Int)), (("looks" : Str), .ref a)])
  mat : MatAt a as h h (fun i j => lookV F s ((i : Int) - (2 ^ s - 1)) ((j : Int) - (2 ^ s - 1))) G
theorem WinAt.ext {C p s a as h F} {G G' : DG} (w : WinAt C p s a as h F G) (e : Ext G G') : WinAt C p s a as h F G' := ⟨e _ _ w.ins, w.mat.ext e⟩
theorem ws {x y : D} : ([(("size" : Str), x), (("looks" : Str), y)] : List (Str × D)).lookup ("size" : Str) = some x := rfl
theorem wl {x y : D} : ([(("size" : Str), x), (("looks" : Str), y)] : List (Str × D)).lookup ("looks" : Str) = some y := rfl
theorem wno {m : Str} {x y : D} (h1 : (m == ("size" : Str)) = false) (h2 : (m == ("looks" : Str)) = false) : ([(("size" : Str), x), (("looks" : Str), y)] : List (Str × D)).lookup m = none := by
  simp only [List.lookup, h1, h2]
theorem wfar {x y : D} : ([(("size" : Str), x), (("looks" : Str), y)] : List (Str × D)).lookup ("far" : Str) = none := wno (by decide) (by decide)
theorem wlook {x y : D} : ([(("size" : Str), x), (("looks" : Str), y)] : List (Str × D)).lookup ("look" : Str) = none := wno (by decide) (by decide)
theorem pw1 {x : D} : putD "size" x [] = [(("size" : Str), x)] := rfl
theorem pw2 {x y : D} : putD "looks" y [(("size" : Str), x)] = [(("size" : Str), x), (("looks" : Str), y)] := rfl
def sp_Windows_init (C : Addr) : DSp := fun ds G Q _ => ∃ (p : Addr) (x y : D), ds = [.ref p, x, y] ∧ G p = some (.ins C []) ∧ Q .non (up G p (.ins C [(("size" : Str), x), (("looks" : Str), y)]))
theorem b_Windows_init {C : Addr} {ds : List D} {G : DG} {Q : DQ} {E : DX} (h : sp_Windows_init C ds G Q E) : R_Windows_init C { nx := fun _ G' => cl Q .non G', rt := cl Q } (startD 3 ds) G := by
  obtain ⟨p, x, y, rfl, hp, k⟩ := h
  unfold R_Windows_init
  walk_at "QT"
  simp only [hp]
  walk_at "QT"
  rw [pw1, pw2]
  exact ⟨by decide, by simp, cl_of k⟩
def sp_Windows_far (C : Addr) : DSp := fun ds G Q _ => ∃ (p : Addr) (s : Nat) (y : D), ds = [.ref p] ∧ G p = some (.ins C [(("size" : Str), .int ((s : Nat) : Int)), (("looks" : Str), y)]) ∧ s ≤ 12 ∧ Q (.int (2 ^ s - 1)) G
theorem b_Windows_far {C : Addr} {ds : List D} {G : DG} {Q : DQ} {E : DX} (h : sp_Windows_far C ds G Q E) : R_Windows_far C { nx := fun _ G' => cl Q .non G', rt := cl Q } (startD 1 ds) G := by
  obtain ⟨p, s, y, rfl, hp, hs, k⟩ := h
  unfold R_Windows_far
  walk_at "QT"
  simp only [hp]
  walk_at "QT"
  refine ⟨_, ws, _, rfl, ⟨by omega, by omega, by decide⟩, ?_⟩
  rw [Int.one_mul, Int.toNat_natCast]
  exact cl_of k
def sp_one_look : DSp := fun ds G Q _ => ∃ a b c d : Int, ds = [.lst [.int a, .int b, .int c, .int d]] ∧ Q (.int (if a = b ∧ a = c ∧ a = d then a else 2)) G
theorem b_one_look {ds : List D} {G : DG} {Q : DQ} {E : DX} (h : sp_one_look ds G Q E) : R_one_look { nx := fun _ G' => cl Q .non G', rt := cl Q } (startD 1 ds) G := by
  obtain ⟨a, b, c, d, rfl, k⟩ := h
  unfold R_one_look
  walk_at "QT"
  refine ⟨⟨_, rfl⟩, [a, b, c, d], rfl, ?_⟩
  have hc : decide ((([a, b, c, d].count a : Nat) : Int) = ((4 : Nat) : Int)) = decide (a = b ∧ a = c ∧ a = d) := by
    congr 1
    apply propext
    simp only [List.count_cons, List.count_nil, beq_iff_eq]
    constructor
    · intro h
      split at h <;> split at h <;> split at h <;> simp at h <;> omega
    · rintro ⟨rfl, rfl, rfl⟩
      simp
  rw [hc]
  by_cases h : a = b ∧ a = c ∧ a = d
  · rw [if_pos h] at k
    rw [if_pos (decide_eq_true h)]
    exact cl_of k
  · rw [if_neg h] at k
    rw [if_neg (fun z => h (of_decide_eq_true z))]
    exact cl_of k
/-- nothing full without -/
def Within (F : Int → Int → Bool) (side : Nat) : Prop := ∀ r c, F r c = true → 0 ≤ r ∧ r < side ∧ 0 ≤ c ∧ c < side
theorem lookV_out {F : Int → Int → Bool} {side : Nat} (hF : Within F side) : ∀ (k : Nat) (r c : Int), (r + (2 ^ k - 1) < 0 ∨ c + (2 ^ k - 1) < 0 ∨ (side : Int) ≤ r ∨ (side : Int) ≤ c) → lookV F k r c = 0
  | 0, r, c, h => by
    show (if F r c = true then (1 : Int) else 0) = 0
    rw [if_neg fun z => by have := hF r c z; omega]
  | k + 1, r, c, h => by
    have e2 : (2 : Int) ^ (k + 1) = 2 ^ k * 2 := Int.pow_succ ..
    have hp := pow_pos' k
    have h1 := lookV_out hF k r c (by omega)
    have h2 := lookV_out hF k r (c + 2 ^ k) (by omega)
    have h3 := lookV_out hF k (r + 2 ^ k) c (by omega)
    have h4 := lookV_out hF k (r + 2 ^ k) (c + 2 ^ k) (by omega)
    unfold lookV
    rw [h1, h2, h3, h4]
    rfl
def sp_Windows_look (C : Addr) : DSp := fun ds G Q _ => ∃ (p : Addr) (s : Nat) (a : Addr) (as : List Addr) (side : Nat) (F : Int → Int → Bool) (r c : Int), ds = [.ref p, .int r, .int c] ∧ WinAt C p s a as (side + (2 ^ s - 1)) F G ∧ Within F side ∧ s ≤ 12 ∧ Q (.int (lookV F s r c)) G
theorem b_Windows_look {C : Addr} {ds : List D} {G : DG} {Q : DQ} {E : DX} (h : sp_Windows_look C ds G Q E) : R_Windows_look C (sp_Windows_far C) { nx := fun _ G' => cl Q .non G', rt := cl Q } (startD 5 ds) G := by
  obtain ⟨p, s, a, as, side, F, r, c, rfl, hw, hF, hs, k⟩ := h
  unfold R_Windows_look
  walk_at "QT"
  have hps := pow_cast s
  have hp0 : 0 < 2 ^ s := Nat.pow_pos (by decide)
  refine ⟨_, hw.ins, wfar, p, s, _, rfl, hw.ins, hs, ?_⟩
  walk_at "QT"
  rw [hw.ins]
  refine ⟨_, rfl, .ref a, wl, ?_⟩
  walk_at "QT"
  rw [hw.mat.top]
  refine ⟨_, lenO_lst, ?_⟩
  have el : (((as.map D.ref).length : Nat) : Int) = side + (2 ^ s - 1) := by
    rw [List.length_map, hw.mat.len, ← hps]; omega
  rw [el]
  by_cases o1 : r + (2 ^ s - 1) < 0
  · rw [lookV_out hF s r c (.inl o1)] at k
    rw [if_pos (decide_eq_true o1)]
    walk_at "QT"
    exact cl_of k
  · rw [if_neg (fun z => o1 (of_decide_eq_true z))]
    by_cases o2 : c + (2 ^ s - 1) < 0
    · rw [lookV_out hF s r c (.inr (.inl o2))] at k
      rw [if_pos (decide_eq_true o2)]
      walk_at "QT"
      exact cl_of k
    · rw [if_neg (fun z => o2 (of_decide_eq_true z))]
      by_cases o3 : (side : Int) + (2 ^ s - 1) ≤ r + (2 ^ s - 1)
      · rw [lookV_out hF s r c (.inr (.inr (.inl (by omega))))] at k
        rw [if_pos (decide_eq_true o3)]
        walk_at "QT"
        exact cl_of k
      · rw [if_neg (fun z => o3 (of_decide_eq_true z))]
        by_cases o4 : (side : Int) + (2 ^ s - 1) ≤ c + (2 ^ s - 1)
        · rw [lookV_out hF s r c (.inr (.inr (.inr (by omega))))] at k
          rw [if_pos (decide_eq_true o4)]
          exact cl_of k
        · rw [if_neg (fun z => o4 (of_decide_eq_true z))]
          obtain ⟨i, hi⟩ := Int.eq_ofNat_of_zero_le (show 0 ≤ r + (2 ^ s - 1) by omega)
          obtain ⟨j, hj⟩ := Int.eq_ofNat_of_zero_le (show 0 ≤ c + (2 ^ s - 1) by omega)
          rw [hi, hj]
          have hil : i < as.length := by rw [hw.mat.len]; omega
          have hx : as[i]? = some as[i] := List.getElem?_eq_getElem hil
          generalize as[i] = y at hx
          have hrow := hw.mat.row _ _ hx
          refine ⟨_, wl, ?_⟩
          walk_at "QT"
          rw [hw.mat.top]
          refine ⟨.ref y, by rw [ixO_lst]; exact atI_nat (by rw [List.getElem?_map, hx]; rfl), ?_⟩
          walk_at "QT"
          rw [hrow]
          refine ⟨_, by rw [ixO_lst]; exact atI_nat (rowL_get (by omega)), ?_⟩
          have e1 : ((i : Nat) : Int) - (2 ^ s - 1) = r := by have : ((i : Nat) : Int) = r + (2 ^ s - 1) := hi.symm; omega
          have e2 : ((j : Nat) : Int) - (2 ^ s - 1) = c := by have : ((j : Nat) : Int) = c + (2 ^ s - 1) := hj.symm; omega
          rw [e1, e2]
          exact cl_of k
theorem lceach_new {g : Tg} {tt : RT} {te : RE} {vs : List Nat} {τ : DSt} {ok : DG → Prop} {l : Addr} {Q : DG → Prop} {items : List D} {G : DG} (row : List D) (hl : G l = none) (hok : ∀ G', ok G')
    (hs : ∀ d, d ∈ items → ∃ τ', g.put d (wipeD τ vs) = some τ' ∧ ∀ G' (Kt : D → DG → Prop) (Kf : DG → Prop), (∀ x, G' x = none → Kt (.ref x) (up G' x (.lst row))) → tt τ' G' fun b G2 => if b = true then te τ' G2 Kt else Kf G2)
    (hz : items.length ≤ sizeLine) (hq : ∀ (as : List Addr) (G' : DG), as.length = items.length → as.Nodup → l ∉ as → (∀ x ∈ as, G x = none ∧ G' x = some (.lst row)) → G' l = some (.lst (as.map D.ref)) → (∀ b, b ≠ l → b ∉ as → G' b = G b) → Q G') : lceach g tt te vs τ ok l Q items (up G l (.lst [])) := by
  have key : ∀ (post : List D) (as : List Addr) (G1 : DG), (∀ d, d ∈ post → d ∈ items) → as.length + post.length = items.length → as.Nodup → l ∉ as → (∀ x ∈ as, G x = none ∧ G1 x = some (.lst row)) → G1 l = some (.lst (as.map D.ref)) → (∀ b, b ≠ l → b ∉ as → G1 b = G b) → lceach g tt te vs τ ok l Q post G1 := by
    intro post
    induction post with
    | nil =>
      intro as G1 _ e1 e2 e3 e4 e5 e6
      exact ⟨hok _, hq as G1 (by simpa using e1) e2 e3 e4 e5 e6⟩
    | cons d post ih =>
      intro as G1 hm e1 e2 e3 e4 e5 e6
      obtain ⟨τ', ep, q⟩ := hs d (hm d List.mem_cons_self)
      refine ⟨hok _, τ', ep, q G1 _ _ fun x hx => ?_⟩
      have nxl : x ≠ l := fun e => by subst e; rw [e5] at hx; cases hx
      have nxa : x ∉ as := fun h => by rw [(e4 x h).2] at hx; cases hx
      have gx : G x = none := by rw [← e6 x nxl nxa]; exact hx
      refine ⟨as.map D.ref, by rw [up_ne nxl.symm]; exact e5, ?_, ?_⟩
      · rw [List.length_map]
        rw [List.length_cons] at e1
        omega
      · refine ih (as ++ [x]) _ (fun d h => hm d (List.mem_cons_of_mem _ h)) (by simp at e1 ⊢; omega) ?_ ?_ (fun y hy => ?_) ?_ fun b hb hb2 => ?_
        · rw [List.nodup_append]
          exact ⟨e2, by simp, fun u hu v hv e => by simp at hv; subst hv; subst e; exact nxa hu⟩
        · simp only [List.mem_append, List.mem_singleton, not_or]
          exact ⟨e3, nxl.symm⟩
        · rcases List.mem_append.mp hy with hy | hy
          · have ny : y ≠ l := fun e => e3 (e ▸ hy)
            have nyx : y ≠ x := fun e => nxa (e ▸ hy)
            exact ⟨(e4 y hy).1, by rw [up_ne ny, up_ne nyx]; exact (e4 y hy).2⟩
          · rw [List.mem_singleton.mp hy]
            exact ⟨gx, by rw [up_ne nxl, up_same]⟩
        · rw [up_same, List.map_append]; rfl
        · simp only [List.mem_append, List.mem_singleton, not_or] at hb2
          rw [up_ne hb, up_ne hb2.2]
          exact e6 b hb hb2.1
  exact key items [] _ (fun _ h => h) (by simp) List.nodup_nil (by simp) (fun x hx => by cases hx) up_same fun b hb _ => up_ne hb
def sp_cell_windows (C : Addr) : DSp := fun ds G Q _ => ∃ (n x : Nat) (T : Rws) (t : QT), ds = [tellD ((n : Nat) : Int) x T] ∧ Canon n x T t ∧ n ≤ 7 ∧ T.length ≤ 100000 ∧ ∀ p a as G', WinAt C p 0 a as (2 ^ n + (2 ^ 0 - 1)) (semI t n) G' → Ext G G' → (∀ b o, G b = some o → b ≠ a ∧ b ∉ as) → Q (.ref p) G'
theorem rep1 (n : Nat) (d : D) : (List.replicate n [d]).flatten = List.replicate n d := by
  induction n with
  | zero => rfl
  | succ n ih => rw [List.replicate_succ, List.flatten_cons, ih, List.replicate_succ]; rfl
theorem b_cell_windows {C : Addr} {ds : List D} {G : DG} {Q : DQ} {E : DX} (h : sp_cell_windows C ds G Q E) : R_cell_windows C (sp_paint 12) (sp_Windows_init C) { nx := fun _ G' => cl Q .non G', rt := cl Q } (startD 4 ds) G := by
  obtain ⟨n, x, T, t, rfl, c, hn, hT, q⟩ := h
  unfold R_cell_windows
  simp only [tellD]
  walk_at "QT"
  have hpn := pow_cast n
  have hp7 : 2 ^ n ≤ 128 := Nat.le_trans (Nat.pow_le_pow_right (by decide) hn) (by decide)
  have hp0 : 0 < 2 ^ n := Nat.pow_pos (by decide)
  have hpw : (1 : Int) * 2 ^ (((n : Nat) : Int).toNat) = 2 ^ n := by rw [Int.one_mul, Int.toNat_natCast]
  rw [hpw]
  have t3 : ((2 : Int) ^ n).toNat = 2 ^ n := by rw [← hpn]; omega
  refine ⟨⟨by omega, by omega, by decide⟩, ⟨by decide, by decide, by omega, by omega⟩, fun l hl => ?_⟩
  refine lceach_new (List.replicate (2 ^ n) (D.int 0)) hl (fun _ => trivial) (fun d hd => ?_) ?_ fun as G1 e1 e2 e3 e4 e5 e6 => ?_
  · unfold rangeD at hd
    obtain ⟨i, _, rfl⟩ := List.mem_map.mp hd
    refine ⟨_, rfl, fun G' Kt Kf hK => ?_⟩
    walk_at "QT"
    rw [t3]
    refine ⟨(fun es z => nomatch z), (fun es z => nomatch z), by omega, by omega, sze (by omega), fun x hx => ?_⟩
    rw [rep1]
    exact hK x hx
  · rw [rangeD_length, t3]
    exact sze (by omega)
  · rw [rangeD_length, t3] at e1
    walk_at "QT"
    have hM : MatAt l as (2 ^ n) (2 ^ n) (fun _ _ => 0) G1 := ⟨e5, e1, e2, fun i x hx => by
      rw [(e4 x (List.mem_of_getElem? hx)).2]
      congr 2
      unfold rowL
      apply List.ext_getElem?
      intro j
      rw [List.getElem?_replicate, List.getElem?_map]
      by_cases hj : j < 2 ^ n
      · rw [if_pos hj, List.getElem?_range hj]; rfl
      · rw [if_neg hj, List.getElem?_eq_none (by simp; omega)]; rfl, e3⟩
    have ext1 : Ext G G1 := fun b o hb => by
      have n1 := ne_new hb hl
      have n2 : b ∉ as := fun h => by rw [(e4 b h).1] at hb; cases hb
      rw [e6 b n1 n2]; exact hb
    refine ⟨T, x, n, t, 0, 0, l, as, 2 ^ n, _, rfl, hM, by omega, by omega, by omega, c.ok, c.den, c.ht, by omega, by omega, fun G2 M2 h2 f2 s2 => ?_⟩
    walk_at "QT"
    intro p hp
    refine ⟨p, _, _, rfl, up_same, rfl, ?_⟩
    rw [up_up]
    have ext2 : Ext G1 G2 ∨ True := .inr trivial
    have ext : Ext G (up G2 p (.ins C [(("size" : Str), .int 0), (("looks" : Str), .ref l)])) := fun b o hb => by
      have n2 : b ∉ as := fun h => by rw [(e4 b h).1] at hb; cases hb
      have h1 := ext1 b o hb
      have h3 : G2 b = some o := by rw [s2 b n2]; exact h1
      rw [up_ne (ne_new h3 hp)]
      exact h3
    have np : ∀ b o, G2 b = some o → b ≠ p := fun b o hb => ne_new hb hp
    refine cl_of (q p l as _ ⟨up_same, ?_⟩ ext fun b o hb => ⟨ne_new hb hl, fun h => by rw [(e4 b h).1] at hb; cases hb⟩)
    have h2' : MatAt l as (2 ^ n) (2 ^ n) M2 (up G2 p (.ins C [(("size" : Str), .int 0), (("looks" : Str), .ref l)])) := h2.ext (Ext.new hp)
    refine h2'.congr fun i j hi hj => ?_
    rw [f2 i j hi hj]
    show _ = (if semI t n ((i : Int) - (2 ^ 0 - 1)) ((j : Int) - (2 ^ 0 - 1)) = true then (1 : Int) else 0)
    have z : ∀ y : Int, y - (2 ^ 0 - 1) = y - ((0 : Nat) : Int) := fun y => by simp
    rw [z, z]
def sp_greater (C : Addr) : DSp := fun ds G Q _ => ∃ (p : Addr) (s : Nat) (a : Addr) (as : List Addr) (side : Nat) (F : Int → Int → Bool), ds = [.ref p, .int ((side : Nat) : Int)] ∧ WinAt C p s a as (side + (2 ^ s - 1)) F G ∧ Within F side ∧ s ≤ 7 ∧ side ≤ 128 ∧
  ∀ p' a' as' G', WinAt C p' (s + 1) a' as' (side + (2 ^ (s + 1) - 1)) F G' → Ext G G' → (∀ b o, G b = some o → b ≠ a' ∧ b ∉ as') → Q (.ref p') G'
theorem snoc_row {M : Nat → Nat → Int} {i k : Nat} : (List.range k).map (fun j => D.int (M i j)) ++ [.int (M i k)] = (List.range (k + 1)).map fun j => D.int (M i j) := by
  rw [List.range_succ, List.map_append]; rfl
theorem b_greater {C : Addr} {ds : List D} {G : DG} {Q : DQ} {E : DX} (h : sp_greater C ds G Q E) : R_greater C sp_one_look (sp_Windows_look C) (sp_Windows_init C) { nx := fun _ G' => cl Q .non G', rt := cl Q } (startD 11 ds) G := by
  obtain ⟨p, s, a, as, side, F, rfl, hw, hF, hs, hside, q⟩ := h
  unfold R_greater
  walk_at "QT"
  rw [hw.ins]
  refine ⟨_, rfl, .int ((s : Nat) : Int), ws, _, rfl, ?_⟩
  have hps := pow_cast s
  have hps1 := pow_cast (s + 1)
  have hp0 : 0 < 2 ^ s := Nat.pow_pos (by decide)
  have hp7 : 2 ^ s ≤ 128 := Nat.le_trans (Nat.pow_le_pow_right (by decide) hs) (by decide)
  have e2 : (2 : Int) ^ (s + 1) = 2 ^ s * 2 := Int.pow_succ ..
  have e2n : 2 ^ (s + 1) = 2 ^ s * 2 := Nat.pow_succ ..
  have hpw : (1 : Int) * 2 ^ (((s : Nat) : Int).toNat) = 2 ^ s := by rw [Int.one_mul, Int.toNat_natCast]
  rw [hpw]
  refine ⟨⟨by omega, by omega, by decide⟩, ?_⟩
  walk_at "QT"
  refine ⟨cmulL (by decide) (by decide), fun b hb => ⟨⟨by omega, by omega, by omega, by omega⟩, ?_⟩⟩
  have efar : (2 : Int) * 2 ^ s - 1 = 2 ^ (s + 1) - 1 := by omega
  rw [efar, rangeD_I]
  generalize hh : side + (2 ^ (s + 1) - 1) = h
  have hlen : (((side : Nat) : Int) - -(2 ^ (s + 1) - 1)).toNat = h := by rw [← hps1] at *; omega
  let M : Nat → Nat → Int := fun i j => lookV F (s + 1) ((i : Int) - (2 ^ (s + 1) - 1)) ((j : Int) - (2 ^ (s + 1) - 1))
  refine feach_inv (fun pre τ G' => ∃ o5 o6 o7 o8, τ = [some (.ref p), some (.int ((side : Nat) : Int)), some (.int (2 ^ s)), some (.int (2 ^ (s + 1) - 1)), some (.ref b), o5, o6, o7, o8, none, none] ∧ ∃ bs : List Addr, bs.length = pre.length ∧ bs.Nodup ∧ b ∉ bs ∧ (∀ i x, bs[i]? = some x → G' x = some (.lst (rowL M h i))) ∧ G' b = some (.lst (bs.map D.ref)) ∧ Ext G G' ∧ ∀ x ∈ bs, G x = none) ?_ ?_ ?_ ?_
  · exact ⟨none, none, none, none, rfl, [], rfl, List.nodup_nil, by simp, (fun i x hx => by simp at hx), up_same, Ext.new hb, fun x hx => by cases hx⟩
  · exact fun _ _ _ _ => trivial
  · rintro pre d post τ G1 e ⟨o5, o6, o7, o8, rfl, bs, bl, bn, bb, brow, btop, bext, bnew⟩
    have pl : pre.length < h := by
      have := congrArg List.length e
      rw [List.length_map, rangeI_length, hlen] at this
      simp at this
      omega
    have hd : d = .int (((pre.length : Nat) : Int) - (2 ^ (s + 1) - 1)) := by
      have h1 : ((rangeI (-(2 ^ (s + 1) - 1)) ((side : Nat) : Int)).map D.int)[pre.length]? = some d := by
        rw [e, List.getElem?_append_right (Nat.le_refl _), Nat.sub_self]; rfl
      unfold rangeI at h1
      rw [List.getElem?_map, List.getElem?_map, hlen, List.getElem?_range pl] at h1
      have := Option.some.inj h1
      rw [← this]
      refine congrArg D.int ?_
      show -(2 ^ (s + 1) - 1) + ((pre.length : Nat) : Int) = ((pre.length : Nat) : Int) - (2 ^ (s + 1) - 1)
      omega
    subst hd
    generalize hr0 : ((pre.length : Nat) : Int) - (2 ^ (s + 1) - 1) = r0 at *
    refine ⟨_, rfl, fun K hK => ?_⟩
    walk_at "QT"
    intro l hl
    have nbl : b ≠ l := ne_new btop hl
    refine ⟨⟨by omega, by omega, by omega, by omega⟩, ?_⟩
    rw [rangeD_I]
    refine feach_inv (fun pre2 τ G' => ∃ o7 o8, τ = [some (.ref p), some (.int ((side : Nat) : Int)), some (.int (2 ^ s)), some (.int (2 ^ (s + 1) - 1)), some (.ref b), some (.int r0), some (.ref l), o7, o8, none, none] ∧ G' = up G1 l (.lst ((List.range pre2.length).map fun j => D.int (M pre.length j)))) ?_ ?_ ?_ ?_
    · exact ⟨_, _, rfl, rfl⟩
    · exact fun _ _ _ _ => trivial
    · rintro pre2 d2 post2 τ G' e' ⟨o7, o8, rfl, rfl⟩
      have pl2 : pre2.length < h := by
        have := congrArg List.length e'
        rw [List.length_map, rangeI_length, hlen] at this
        simp at this
        omega
      have hd2 : d2 = .int (((pre2.length : Nat) : Int) - (2 ^ (s + 1) - 1)) := by
        have h1 : ((rangeI (-(2 ^ (s + 1) - 1)) ((side : Nat) : Int)).map D.int)[pre2.length]? = some d2 := by
          rw [e', List.getElem?_append_right (Nat.le_refl _), Nat.sub_self]; rfl
        unfold rangeI at h1
        rw [List.getElem?_map, List.getElem?_map, hlen, List.getElem?_range pl2] at h1
        have := Option.some.inj h1
        rw [← this]
        refine congrArg D.int ?_
        show -(2 ^ (s + 1) - 1) + ((pre2.length : Nat) : Int) = ((pre2.length : Nat) : Int) - (2 ^ (s + 1) - 1)
        omega
      subst hd2
      generalize hc0 : ((pre2.length : Nat) : Int) - (2 ^ (s + 1) - 1) = c0 at *
      refine ⟨_, rfl, fun K2 hK2 => ?_⟩
      walk_at "QT"
      refine ⟨⟨_, rfl⟩, fun cc hcc => ?_⟩
      let f : D → Option D := fun d => match d with | .tup [.int r, .int c] => some (.int (lookV F s r c)) | _ => none
      have hf : [D.tup [.int r0, .int c0], .tup [.int r0, .int (c0 + 2 ^ s)], .tup [.int (r0 + 2 ^ s), .int c0], .tup [.int (r0 + 2 ^ s), .int (c0 + 2 ^ s)]].filterMap f = [.int (lookV F s r0 c0), .int (lookV F s r0 (c0 + 2 ^ s)), .int (lookV F s (r0 + 2 ^ s) c0), .int (lookV F s (r0 + 2 ^ s) (c0 + 2 ^ s))] := rfl
      refine lceach_pure f hcc (fun _ _ => trivial) (fun d3 hd3 => ?_) ?_ ?_
      · obtain ⟨r, c, rfl⟩ : ∃ r c, d3 = .tup [.int r, .int c] := by
          simp only [List.mem_cons, List.not_mem_nil, or_false] at hd3
          rcases hd3 with e | e | e | e <;> exact ⟨_, _, e⟩
        refine ⟨_, rfl, fun G2 ex2 Kt Kf hk => ?_⟩
        have hw2 : WinAt C p s a as (side + (2 ^ s - 1)) F G2 := (hw.ext (bext.trans (Ext.new hl))).ext ex2
        walk_at "QT"
        exact ⟨_, hw2.ins, wlook, p, s, a, as, side, F, r, c, rfl, hw2, hF, by omega, hk⟩
      · rw [hf]; exact sze (by simp)
      · rw [hf]
        walk_at "QT"
        rw [del_up hcc]
        refine ⟨_, _, _, _, rfl, ?_⟩
        walk_at "QT"
        refine ⟨szl (by simp; omega), hK2 _ _ ⟨_, _, rfl, ?_⟩⟩
        rw [List.length_append, List.length_singleton, ← snoc_row]
        congr 3
        show [D.int _] = [D.int (lookV F (s + 1) _ _)]
        rw [hr0, hc0]
        rfl
    · rintro τ G' ⟨o7, o8, rfl, rfl⟩
      walk_at "QT"
      rw [List.length_map, rangeI_length, hlen]
      rw [up_ne nbl, btop]
      have nlb : l ∉ bs := fun hm => by
        obtain ⟨i, hi, ei⟩ := List.getElem_of_mem hm
        have := brow i l (by rw [List.getElem?_eq_getElem hi, ei])
        rw [hl] at this
        cases this
      refine ⟨⟨_, rfl⟩, _, rfl, szl (by simp; omega), hK _ _ ⟨_, _, _, _, rfl, bs ++ [l], by simp [bl], ?_, ?_, fun i x hx => ?_, ?_, fun y o ey => ?_, fun x hx => ?_⟩⟩
      · rw [List.nodup_append]
        exact ⟨bn, by simp, fun u hu v hv e => by simp at hv; subst hv; subst e; exact nlb hu⟩
      · simp only [List.mem_append, List.mem_singleton, not_or]
        exact ⟨bb, nbl⟩
      · by_cases hi : i < bs.length
        · rw [List.getElem?_append_left hi] at hx
          have hm := List.mem_of_getElem? hx
          rw [up_ne (fun e => bb (by rw [← e]; exact hm)), up_ne (fun e => nlb (by rw [← e]; exact hm))]
          exact brow i x hx
        · rw [List.getElem?_append_right (by omega)] at hx
          have hi2 : i - bs.length = 0 := by
            cases hh2 : i - bs.length with
            | zero => rfl
            | succ j => rw [hh2] at hx; simp at hx
          rw [hi2] at hx
          simp at hx
          subst hx
          rw [up_ne nbl.symm, up_same]
          have : i = pre.length := by omega
          rw [this]
          rfl
      · rw [up_same, List.map_append]; rfl
      · rw [up_ne (ne_new ey hb), up_ne (ne_new (bext _ _ ey) hl)]
        exact bext _ _ ey
      · rcases List.mem_append.mp hx with hx | hx
        · exact bnew x hx
        · rw [List.mem_singleton.mp hx]
          cases hgl : G l with
          | none => rfl
          | some o => rw [bext _ _ hgl] at hl; cases hl
  · rintro τ G1 ⟨o5, o6, o7, o8, rfl, bs, bl, bn, bb, brow, btop, bext, bnew⟩
    rw [List.length_map, rangeI_length, hlen] at bl
    walk_at "QT"
    rw [bext _ _ hw.ins]
    refine ⟨_, rfl, _, ws, ?_⟩
    walk_at "QT"
    intro p' hp'
    refine ⟨p', _, _, rfl, up_same, rfl, ?_⟩
    rw [up_up]
    have es : ((s : Nat) : Int) + 1 = ((s + 1 : Nat) : Int) := by omega
    rw [es]
    refine cl_of (q p' b bs _ ⟨up_same, ?_⟩ (bext.trans (Ext.new hp')) fun y o ey => ⟨ne_new ey hb, fun h => by rw [bnew y h] at ey; cases ey⟩)
    rw [hh]
    have m1 : MatAt b bs h h M G1 := ⟨btop, bl, bn, brow, bb⟩
    exact m1.ext (Ext.new hp')
/-- the windows that are mixed, by what they leave behind a move -/
def mlab (s : Nat) (p : Cell) : Cell := ((2 ^ s - 1 - p.1) % 2 ^ s, (2 ^ s - 1 - p.2) % 2 ^ s)
/-- places of mixed windows, those ahead of (i, j) alone -/
def MixedTo (F : Int → Int → Bool) (s h i j : Nat) (ps : List Cell) : Prop := ps.Nodup ∧ ∀ p : Cell, p ∈ ps ↔ ∃ u v : Nat, p = (((u : Nat) : Int), ((v : Nat) : Int)) ∧ u < h ∧ v < h ∧ (u < i ∨ u = i ∧ v < j) ∧ lookV F s ((u : Int) - (2 ^ s - 1)) ((v : Int) - (2 ^ s - 1)) = 2
theorem MixedTo.skip {F : Int → Int → Bool} {s h i j : Nat} {ps : List Cell} (m : MixedTo F s h i j ps) (n : lookV F s ((i : Int) - (2 ^ s - 1)) ((j : Int) - (2 ^ s - 1)) ≠ 2) : MixedTo F s h i (j + 1) ps := ⟨m.1, fun p => by
  rw [m.2]
  constructor
  · rintro ⟨u, v, e, a, b, c, d⟩
    exact ⟨u, v, e, a, b, by omega, d⟩
  · rintro ⟨u, v, e, a, b, c, d⟩
    refine ⟨u, v, e, a, b, ?_, d⟩
    by_cases z : u = i ∧ v = j
    · obtain ⟨rfl, rfl⟩ := z
      exact absurd d n
    · omega⟩
theorem MixedTo.put {F : Int → Int → Bool} {s h i j : Nat} {ps : List Cell} (m : MixedTo F s h i j ps) (hi : i < h) (hj : j < h) (n : lookV F s ((i : Int) - (2 ^ s - 1)) ((j : Int) - (2 ^ s - 1)) = 2) : MixedTo F s h i (j + 1) (ps ++ [(((i : Nat) : Int), ((j : Nat) : Int))]) := ⟨by
  rw [List.nodup_append]
  refine ⟨m.1, by simp, fun u hu v hv e => ?_⟩
  simp at hv
  subst hv
  subst e
  obtain ⟨u, v, e, a, b, c, d⟩ := (m.2 _).mp hu
  have e1 := congrArg Prod.fst e
  have e2 := congrArg Prod.snd e
  simp at e1 e2
  omega, fun p => by
  rw [List.mem_append, m.2, List.mem_singleton]
  constructor
  · rintro (⟨u, v, e, a, b, c, d⟩ | rfl)
    · exact ⟨u, v, e, a, b, by omega, d⟩
    · exact ⟨i, j, rfl, hi, hj, by omega, n⟩
  · rintro ⟨u, v, e, a, b, c, d⟩
    by_cases z : u = i ∧ v = j
    · obtain ⟨rfl, rfl⟩ := z
      exact .inr e
    · exact .inl ⟨u, v, e, a, b, by omega, d⟩⟩
theorem MixedTo.line {F : Int → Int → Bool} {s h i : Nat} {ps : List Cell} (m : MixedTo F s h i h ps) : MixedTo F s h (i + 1) 0 ps := ⟨m.1, fun p => by
  rw [m.2]
  constructor
  · rintro ⟨u, v, e, a, b, c, d⟩
    exact ⟨u, v, e, a, b, by omega, d⟩
  · rintro ⟨u, v, e, a, b, c, d⟩
    exact ⟨u, v, e, a, b, by omega, d⟩⟩
def sp_mixed_by_remainder (C : Addr) : DSp := fun ds G Q _ => ∃ (p : Addr) (s : Nat) (a : Addr) (as : List Addr) (side : Nat) (F : Int → Int → Bool), ds = [.ref p] ∧ WinAt C p s a as (side + (2 ^ s - 1)) F G ∧ s ≤ 7 ∧ side ≤ 128 ∧
  ∀ (m : Addr) (kvs : List (D × D)) (ps ls : List Cell) G', G m = none → G' m = some (.dn kvs) → Counted (mlab s) ps kvs ls → MixedTo F s (side + (2 ^ s - 1)) (side + (2 ^ s - 1)) 0 ps → Ext G G' → Q (.ref m) G'
theorem b_mixed_by_remainder {C : Addr} {ds : List D} {G : DG} {Q : DQ} {E : DX} (h : sp_mixed_by_remainder C ds G Q E) : R_mixed_by_remainder C (sp_Windows_far C) { nx := fun _ G' => cl Q .non G', rt := cl Q } (startD 8 ds) G := by
  obtain ⟨p, s, a, as, side, F, rfl, hw, hs, hside, q⟩ := h
  unfold R_mixed_by_remainder
  walk_at "QT"
  rw [hw.ins]
  refine ⟨_, rfl, _, ws, ?_⟩
  have hps := pow_cast s
  have hp0 : 0 < 2 ^ s := Nat.pow_pos (by decide)
  have hp7 : 2 ^ s ≤ 128 := Nat.le_trans (Nat.pow_le_pow_right (by decide) hs) (by decide)
  have hpw : (1 : Int) * 2 ^ (((s : Nat) : Int).toNat) = 2 ^ s := by rw [Int.one_mul, Int.toNat_natCast]
  walk_at "QT"
  rw [hpw]
  refine ⟨⟨by omega, by omega, by decide⟩, fun m hm => ?_⟩
  walk_at "QT"
  have np : p ≠ m := ne_new hw.ins hm
  have hE0 : Ext G (up G m (.dn [])) := Ext.new hm
  refine ⟨_, by rw [up_ne np]; exact hw.ins, .ref a, wl, _, (by rw [tupOf_ref, hE0 _ _ hw.mat.top]; rfl), ?_⟩
  generalize hh : side + (2 ^ s - 1) = h at *
  have hh2 : h ≤ 255 := by omega
  let M : Nat → Nat → Int := fun i j => lookV F s ((i : Int) - (2 ^ s - 1)) ((j : Int) - (2 ^ s - 1))
  refine feach_inv (fun pre τ G' => ∃ o3 o4 o5 o6 o7, τ = [some (.ref p), some (.int (2 ^ s)), some (.ref m), o3, o4, o5, o6, o7] ∧ ∃ (kvs : List (D × D)) (ps ls : List Cell), G' = up G m (.dn kvs) ∧ Counted (mlab s) ps kvs ls ∧ MixedTo F s h pre.length 0 ps ∧ ps.length ≤ pre.length * h) ?_ ?_ ?_ ?_
  · refine ⟨none, none, none, none, none, rfl, [], [], [], rfl, ⟨rfl, List.nodup_nil, fun l => by simp [cnt], fun l => rfl⟩, ⟨List.nodup_nil, fun p => ?_⟩, Nat.zero_le _⟩
    constructor
    · intro z; cases z
    · rintro ⟨u, v, _, _, _, z, _⟩
      simp at z
  · rintro pre τ G' ⟨o3, o4, o5, o6, o7, rfl, kvs, ps, ls, rfl, hc, hmx, hpl⟩
    have := (Ext.new (G := G) (o := .dn kvs) hm) _ _ hw.mat.top
    show vS _ _ = _
    exact vS_ref'.mpr this
  · rintro pre d post τ G1 e ⟨o3, o4, o5, o6, o7, rfl, kvs, ps, ls, rfl, hc, hmx, hpl⟩
    have h1 : (enumD (as.map D.ref))[pre.length]? = some d := by
      rw [e, List.getElem?_append_right (Nat.le_refl _), Nat.sub_self]; rfl
    obtain ⟨y, hy, rfl⟩ := enumD_get h1
    rw [List.getElem?_map] at hy
    have pl : pre.length < h := by
      have := congrArg List.length e
      rw [enumD_length, List.length_map, hw.mat.len] at this
      simp at this
      omega
    cases hx : as[pre.length]? with
    | none => rw [hx] at hy; cases hy
    | some x =>
    rw [hx] at hy
    have hy' : y = .ref x := (Option.some.inj hy).symm
    subst hy'
    have hrow := hw.mat.row _ _ hx
    generalize hi : pre.length = i at *
    refine ⟨_, rfl, fun K hK => ?_⟩
    walk_at "QT"
    have hG1 : ∀ kvs : List (D × D), up G m (.dn kvs) x = some (.lst (rowL M h i)) := fun kvs => Ext.new hm _ _ hrow
    refine ⟨_, (by rw [hG1]; rfl), ?_⟩
    refine feach_inv (fun pre2 τ G' => ∃ o5 o6 o7, τ = [some (.ref p), some (.int (2 ^ s)), some (.ref m), some (.int ((i : Nat) : Int)), some (.ref x), o5, o6, o7] ∧ ∃ (kvs : List (D × D)) (ps ls : List Cell), G' = up G m (.dn kvs) ∧ Counted (mlab s) ps kvs ls ∧ MixedTo F s h i pre2.length ps ∧ ps.length ≤ i * h + pre2.length) ?_ ?_ ?_ ?_
    · exact ⟨_, _, _, rfl, kvs, ps, ls, rfl, hc, hmx, hpl⟩
    · rintro pre2 τ G' ⟨o5, o6, o7, rfl, kvs, ps, ls, rfl, hc, hmx, hpl⟩
      exact hG1 _
    · rintro pre2 d2 post2 τ G' e2 ⟨o5, o6, o7, rfl, kvs, ps, ls, rfl, hc, hmx, hpl⟩
      have h2 : (enumD (rowL M h i))[pre2.length]? = some d2 := by
        rw [e2, List.getElem?_append_right (Nat.le_refl _), Nat.sub_self]; rfl
      obtain ⟨y, hy2, rfl⟩ := enumD_get h2
      have pl2 : pre2.length < h := by
        have := congrArg List.length e2
        unfold rowL at this
        rw [enumD_length] at this
        simp at this
        omega
      unfold rowL at hy2
      rw [List.getElem?_map, List.getElem?_range pl2] at hy2
      have hy3 : y = .int (M i pre2.length) := (Option.some.inj hy2).symm
      subst hy3
      rw [List.length_append, List.length_singleton]
      generalize hj : pre2.length = j at *
      refine ⟨_, rfl, fun K2 hK2 => ?_⟩
      walk_at "QT"
      by_cases hm2 : lookV F s ((i : Int) - (2 ^ s - 1)) ((j : Int) - (2 ^ s - 1)) = 2
      · rw [if_pos (by first | exact decide_eq_true hm2 | exact hm2)]
        walk_at "QT"
        have hins : ∀ kvs : List (D × D), up G m (.dn kvs) p = some (.ins C [(("size" : Str), .int ((s : Nat) : Int)), (("looks" : Str), .ref a)]) := fun kvs => Ext.new hm _ _ hw.ins
        refine ⟨_, hins _, wfar, p, s, _, rfl, hins _, by omega, _, rfl, by omega, _, hins _, wfar, p, s, _, rfl, hins _, by omega, _, rfl, by omega, by rw [up_same]; rfl, ?_⟩
        have el : D.tup [.int ((2 ^ s - 1 - ((i : Nat) : Int)) % 2 ^ s), .int ((2 ^ s - 1 - ((j : Nat) : Int)) % 2 ^ s)] = cellD (mlab s (((i : Nat) : Int), ((j : Nat) : Int))) := rfl
        rw [el]
        have gd : (dgetL kvs (cellD (mlab s (((i : Nat) : Int), ((j : Nat) : Int))))).getD (.int 0) = .int ((cnt (mlab s) ps (mlab s (((i : Nat) : Int), ((j : Nat) : Int))) : Nat) : Int) := by
          rw [hc.val]
          split
          · rfl
          · have : cnt (mlab s) ps (mlab s (((i : Nat) : Int), ((j : Nat) : Int))) = 0 := by omega
            rw [this]; rfl
        obtain ⟨ls', hc'⟩ := hc.step (((i : Nat) : Int), ((j : Nat) : Int))
        have hlen := hc.len
        have hb : i * h ≤ 254 * 255 := Nat.mul_le_mul (by omega) hh2
        refine ⟨kvs, dkv_dn up_same (isN_cellD _), _, gd, _, (by rw [up_same]; exact putO_dn (isN_cellD _) (szl (by omega))), ?_⟩
        rw [up_up]
        exact hK2 _ _ ⟨_, _, _, rfl, _, _, ls', rfl, hc', hmx.put pl pl2 hm2, by simp; omega⟩
      · rw [if_neg (by first | exact fun z => hm2 (of_decide_eq_true z) | exact hm2)]
        walk_at "QT"
        exact hK2 _ _ ⟨_, _, _, rfl, kvs, ps, ls, rfl, hc, hmx.skip hm2, by omega⟩
    · rintro τ G' ⟨o5, o6, o7, rfl, kvs, ps, ls, rfl, hc, hmx, hpl⟩
      have el : (enumD (rowL M h i)).length = h := by rw [enumD_length]; unfold rowL; simp
      rw [show (enumD (rowL (fun i j => lookV F s ((i : Int) - (2 ^ s - 1)) ((j : Int) - (2 ^ s - 1))) h i)).length = h from el] at hmx hpl
      refine hK _ _ ⟨_, _, _, _, _, rfl, kvs, ps, ls, rfl, hc, ?_, ?_⟩
      · rw [List.length_append, List.length_singleton, hi]
        exact hmx.line
      · rw [List.length_append, List.length_singleton, hi, Nat.succ_mul]
        exact hpl
  · rintro τ G' ⟨o3, o4, o5, o6, o7, rfl, kvs, ps, ls, rfl, hc, hmx, hpl⟩
    rw [enumD_length, List.length_map, hw.mat.len] at hmx
    walk_at "QT"
    exact cl_of (q m kvs ps ls _ hm up_same hc hmx (Ext.new hm))
/-- dicts of mixed windows' labels, by sizes from 1 on -/
def HeldMix (F : Int → Int → Bool) (side : Nat) (ms : List Addr) (G : DG) : Prop := ∀ i x, ms[i]? = some x → ∃ (kvs : List (D × D)) (ps ls : List Cell), G x = some (.dn kvs) ∧ Counted (mlab (i + 1)) ps kvs ls ∧ MixedTo F (i + 1) (side + (2 ^ (i + 1) - 1)) (side + (2 ^ (i + 1) - 1)) 0 ps
theorem HeldMix.ext {F : Int → Int → Bool} {side : Nat} {ms : List Addr} {G G' : DG} (h : HeldMix F side ms G) (e : ∀ x ∈ ms, ∀ o, G x = some o → G' x = some o) : HeldMix F side ms G' := fun i x hx => by
  obtain ⟨kvs, ps, ls, a, b, c⟩ := h i x hx
  exact ⟨kvs, ps, ls, e x (List.mem_of_getElem? hx) _ a, b, c⟩
def sp_all_mixed : DSp := fun ds G Q _ => ∃ (n x : Nat) (T : Rws) (t : QT), ds = [tellD ((n : Nat) : Int) x T] ∧ Canon n x T t ∧ n ≤ 7 ∧ T.length ≤ 100000 ∧ ∀ (l : Addr) (ms : List Addr) G', G' l = some (.lst (ms.map D.ref)) → ms.length = n → HeldMix (semI t n) (2 ^ n) ms G' → Ext G G' → Q (.ref l) G'
theorem b_all_mixed {C : Addr} {ds : List D} {G : DG} {Q : DQ} {E : DX} (h : sp_all_mixed ds G Q E) : R_all_mixed (sp_cell_windows C) (sp_greater C) (sp_mixed_by_remainder C) { nx := fun _ G' => cl Q .non G', rt := cl Q } (startD 4 ds) G := by
  obtain ⟨n, x, T, t, rfl, c, hn, hT, q⟩ := h
  unfold R_all_mixed
  simp only [tellD]
  walk_at "QT"
  intro l hl
  refine ⟨n, x, T, t, rfl, c, hn, hT, fun p a as G1 hw he hf => ?_⟩
  walk_at "QT"
  have hpn := pow_cast n
  have hp7 : 2 ^ n ≤ 128 := Nat.le_trans (Nat.pow_le_pow_right (by decide) hn) (by decide)
  have hpw : (1 : Int) * 2 ^ (((n : Nat) : Int).toNat) = ((2 ^ n : Nat) : Int) := by rw [Int.one_mul, Int.toNat_natCast, hpn]
  refine ⟨⟨by omega, by omega, by omega, by omega⟩, ?_⟩
  have hwi : Within (semI t n) (2 ^ n) := fun r c h => by
    have := semI_in _ _ _ _ h
    omega
  refine feach_inv (fun pre τ G' => ∃ p' o3, τ = [some (.tup [.int ((n : Nat) : Int), .int ((x : Nat) : Int), .tup (T.map rowD)]), some (.ref l), some (.ref p'), o3] ∧ ∃ (a : Addr) (as ms : List Addr), WinAt C p' pre.length a as (2 ^ n + (2 ^ pre.length - 1)) (semI t n) G' ∧ G' l = some (.lst (ms.map D.ref)) ∧ ms.length = pre.length ∧ HeldMix (semI t n) (2 ^ n) ms G' ∧ Ext G G' ∧ l ≠ a ∧ l ∉ as) ?_ ?_ ?_ ?_
  · obtain ⟨f1, f2⟩ := hf l _ up_same
    exact ⟨p, none, rfl, a, as, [], hw, he _ _ up_same, rfl, fun i x hx => by simp at hx, fun b o hb => he _ _ (Ext.new hl _ _ hb), f1, f2⟩
  · exact fun _ _ _ _ => trivial
  · rintro pre d post τ G2 e ⟨p', o3, rfl, a', as', ms, w2, h2, h3, h4, h5, h6, h7⟩
    have pl : pre.length < n := by
      have := congrArg List.length e
      rw [rangeD_length] at this
      simp at this
      omega
    have hd : ∃ y, d = .int y := by
      have h1 : d ∈ rangeD 0 (((n : Nat) : Int)).toNat := by rw [e]; simp
      unfold rangeD at h1
      obtain ⟨i, _, rfl⟩ := List.mem_map.mp h1
      exact ⟨_, rfl⟩
    obtain ⟨y, rfl⟩ := hd
    refine ⟨_, rfl, fun K hK => ?_⟩
    walk_at "QT"
    rw [hpw]
    refine ⟨⟨by omega, by omega, by decide⟩, p', pre.length, a', as', 2 ^ n, semI t n, rfl, w2, hwi, by omega, hp7, fun p3 a3 as3 G3 w3 e3 f3 => ?_⟩
    refine ⟨⟨_, e3 _ _ h2⟩, p3, pre.length + 1, a3, as3, 2 ^ n, semI t n, rfl, w3, by omega, hp7, fun m kvs ps ls G4 g4 hm hc hmx e4 => ?_⟩
    have hl4 := e4 _ _ (e3 _ _ h2)
    obtain ⟨f5, f6⟩ := f3 l _ h2
    have nlm : l ≠ m := ne_new (e3 _ _ h2) g4
    have nlp : l ≠ p3 := fun e => by rw [e, e4 _ _ w3.ins] at hl4; cases hl4
    have w4 := w3.ext e4
    have ek : (2 : Nat) ^ n + (2 ^ (pre.length + 1) - 1) = 2 ^ n + (2 ^ (pre.length + 1) - 1) := rfl
    refine ⟨_, hl4, szl (by simp; omega), hK _ _ ⟨p3, _, rfl, a3, as3, ms ++ [m], ?_, ?_, by simp [h3], ?_, fun b o hb => ?_, f5, f6⟩⟩
    · rw [List.length_append, List.length_singleton]
      refine ⟨by rw [up_ne nlp.symm]; exact w4.ins, ⟨by rw [up_ne f5.symm]; exact w4.mat.top, w4.mat.len, w4.mat.nd, fun i x hx => ?_, w4.mat.na⟩⟩
      have nlx : x ≠ l := fun e => f6 (by rw [← e]; exact List.mem_of_getElem? hx)
      rw [up_ne nlx]
      exact w4.mat.row i x hx
    · rw [up_same, List.map_append]; rfl
    · have hx4 : HeldMix (semI t n) (2 ^ n) ms G4 := h4.ext fun x _ o hx => e4 _ _ (e3 _ _ hx)
      intro i x hx
      by_cases hi : i < ms.length
      · rw [List.getElem?_append_left hi] at hx
        obtain ⟨kvs, ps, ls, q1, q2⟩ := hx4 i x hx
        refine ⟨kvs, ps, ls, ?_, q2⟩
        rw [up_ne fun e => by rw [e, hl4] at q1; cases q1]
        exact q1
      · rw [List.getElem?_append_right (by omega)] at hx
        have hi2 : i - ms.length = 0 := by
          cases hh2 : i - ms.length with
          | zero => rfl
          | succ j => rw [hh2] at hx; simp at hx
        rw [hi2] at hx
        simp at hx
        subst hx
        have : i = pre.length := by omega
        subst this
        exact ⟨kvs, ps, ls, by rw [up_ne nlm.symm]; exact hm, hc, hmx⟩
    · rw [up_ne (ne_new hb hl)]
      exact e4 _ _ (e3 _ _ (h5 _ _ hb))
  · rintro τ G2 ⟨p', o3, rfl, a', as', ms, w2, h2, h3, h4, h5, h6, h7⟩
    walk_at "QT"
    exact cl_of (q l ms _ h2 (by rw [h3, rangeD_length]; omega) h4 h5)
/-- so many mixed windows of size s leave what a move leaves -/
def MixN (F : Int → Int → Bool) (side s : Nat) (dn rt : Int) (N : Nat) : Prop := ∃ ps, MixedTo F s (side + (2 ^ s - 1)) (side + (2 ^ s - 1)) 0 ps ∧ N = cnt (mlab s) ps (dn % 2 ^ s, rt % 2 ^ s)
theorem mixed_len {F : Int → Int → Bool} {s h : Nat} {ps : List Cell} (m : MixedTo F s h h 0 ps) : ps.length ≤ h * h := by
  have := nodup_le ps ((List.range h).flatMap fun u => (List.range h).map fun v => (((u : Nat) : Int), ((v : Nat) : Int))) m.1 fun p hp => by
    obtain ⟨u, v, e, a, b, _⟩ := (m.2 p).mp hp
    rw [List.mem_flatMap]
    exact ⟨u, List.mem_range.mpr a, List.mem_map.mpr ⟨v, List.mem_range.mpr b, e.symm⟩⟩
  refine Nat.le_trans this (Nat.le_of_eq ?_)
  rw [List.length_flatMap]
  have : ∀ l : List Nat, (l.map fun a => ((List.range h).map fun v => ((((a : Nat) : Int), ((v : Nat) : Int)) : Cell)).length).sum = l.length * h := fun l => by
    induction l with
    | nil => simp
    | cons a l ih => rw [List.map_cons, List.sum_cons, ih, List.length_cons, Nat.succ_mul, List.length_map, List.length_range]; omega
  rw [this, List.length_range]
theorem cnt_le (lb : Cell → Cell) (ps : List Cell) (l : Cell) : cnt lb ps l ≤ ps.length := List.countP_le_length
def sp_leaves_behind : DSp := fun ds G Q _ => ∃ (l : Addr) (ms : List Addr) (F : Int → Int → Bool) (side : Nat) (dn rt : Int), ds = [.ref l, .int dn, .int rt] ∧ G l = some (.lst (ms.map D.ref)) ∧ HeldMix F side ms G ∧ ms.length ≤ 7 ∧ side ≤ 128 ∧
  ∀ xs : List Nat, xs.length = ms.length → (∀ i x, xs[i]? = some x → MixN F side (i + 1) dn rt x) → Q (.int (1 + 3 * ((xs.sum : Nat) : Int))) G
theorem b_leaves_behind {ds : List D} {G : DG} {Q : DQ} {E : DX} (h : sp_leaves_behind ds G Q E) : R_leaves_behind { nx := fun _ G' => cl Q .non G', rt := cl Q } (startD 7 ds) G := by
  obtain ⟨l, ms, F, side, dn, rt, rfl, hl, hm, hn, hside, q⟩ := h
  unfold R_leaves_behind
  walk_at "QT"
  refine ⟨_, by rw [hl]; rfl, ?_⟩
  refine feach_inv (fun pre τ G' => ∃ o4 o5 o6, ∃ xs : List Nat, τ = [some (.ref l), some (.int dn), some (.int rt), some (.int ((xs.sum : Nat) : Int)), o4, o5, o6] ∧ G' = G ∧ xs.length = pre.length ∧ (∀ i x, xs[i]? = some x → MixN F side (i + 1) dn rt x) ∧ xs.sum ≤ 100000 * pre.length) ?_ ?_ ?_ ?_
  · exact ⟨none, none, none, [], rfl, rfl, rfl, fun i x h => by simp at h, by simp⟩
  · rintro pre τ G' ⟨o4, o5, o6, xs, rfl, rfl, _⟩
    exact hl
  · rintro pre d post τ G' e ⟨o4, o5, o6, xs, rfl, rfl, xl, hx, hs⟩
    have h1 : (enumD (ms.map D.ref))[pre.length]? = some d := by
      rw [e, List.getElem?_append_right (Nat.le_refl _), Nat.sub_self]; rfl
    obtain ⟨y, hy, rfl⟩ := enumD_get h1
    rw [List.getElem?_map] at hy
    have pl : pre.length < ms.length := by
      have := congrArg List.length e
      rw [enumD_length, List.length_map] at this
      simp at this
      omega
    cases hxx : ms[pre.length]? with
    | none => rw [hxx] at hy; cases hy
    | some m =>
    rw [hxx] at hy
    have hy' : y = .ref m := (Option.some.inj hy).symm
    subst hy'
    obtain ⟨kvs, ps, ls, hk, hc, hmx⟩ := hm _ _ hxx
    generalize hi : pre.length = i at *
    refine ⟨_, rfl, fun K hK => ?_⟩
    walk_at "QT"
    have e2 : (2 : Int) * 2 ^ (((i : Nat) : Int).toNat) = 2 ^ (i + 1) := by rw [Int.toNat_natCast, Int.pow_succ, Int.mul_comm]
    rw [e2]
    have hp := pow_pos' (i + 1)
    have el : D.tup [.int (dn % 2 ^ (i + 1)), .int (rt % 2 ^ (i + 1))] = cellD (dn % 2 ^ (i + 1), rt % 2 ^ (i + 1)) := rfl
    rw [el]
    generalize hlb : ((dn % 2 ^ (i + 1), rt % 2 ^ (i + 1)) : Cell) = lb
    have gd : (dgetL kvs (cellD lb)).getD (.int 0) = .int ((cnt (mlab (i + 1)) ps lb : Nat) : Int) := by
      rw [hc.val]
      split
      · rfl
      · have : cnt (mlab (i + 1)) ps lb = 0 := by omega
        rw [this]; rfl
    have hN : MixN F side (i + 1) dn rt (cnt (mlab (i + 1)) ps lb) := ⟨ps, hmx, by rw [hlb]⟩
    refine ⟨⟨by omega, by omega, by decide⟩, by rw [hk]; rfl, hp, hp, kvs, dkv_dn hk (isN_cellD _), _, gd, hK _ _ ⟨some (.int ((i : Nat) : Int)), some (.ref m), some (.int (2 ^ (i + 1))), xs ++ [cnt (mlab (i + 1)) ps lb], ?_, rfl, by simp [xl, hi], fun j x hx2 => ?_, ?_⟩⟩
    · rw [List.sum_append, List.sum_singleton, Int.natCast_add]
    · by_cases hj : j < xs.length
      · rw [List.getElem?_append_left hj] at hx2
        exact hx j x hx2
      · rw [List.getElem?_append_right (by omega)] at hx2
        have hi2 : j - xs.length = 0 := by
          cases hh2 : j - xs.length with
          | zero => rfl
          | succ j => rw [hh2] at hx2; simp at hx2
        rw [hi2] at hx2
        simp at hx2
        subst hx2
        have : j = i := by omega
        subst this
        exact hN
    · rw [List.sum_append, List.sum_singleton, List.length_append, List.length_singleton]
      have h2 := mixed_len hmx
      have h3 := cnt_le (mlab (i + 1)) ps lb
      have h4 : (2 : Nat) ^ (i + 1) ≤ 2 ^ 7 := Nat.pow_le_pow_right (by decide) (by omega)
      have h5 : side + (2 ^ (i + 1) - 1) ≤ 255 := by omega
      have h6 := Nat.mul_le_mul h5 h5
      omega
  · rintro τ G' ⟨o4, o5, o6, xs, rfl, rfl, xl, hx, hs⟩
    rw [enumD_length, List.length_map] at xl hs
    walk_at "QT"
    have hb : CMul 3 ((xs.sum : Nat) : Int) := cmulL (by decide) (by decide)
    exact ⟨hb, cl_of (q xs xl hx)⟩
def grid (h : Nat) : List Cell := (List.range h).flatMap fun u => (List.range h).map fun v => (((u : Nat) : Int), ((v : Nat) : Int))
theorem grid_mem {h : Nat} {p : Cell} : p ∈ grid h ↔ ∃ u v : Nat, p = (((u : Nat) : Int), ((v : Nat) : Int)) ∧ u < h ∧ v < h := by
  unfold grid
  rw [List.mem_flatMap]
  constructor
  · rintro ⟨u, hu, hp⟩
    obtain ⟨v, hv, rfl⟩ := List.mem_map.mp hp
    exact ⟨u, v, rfl, List.mem_range.mp hu, List.mem_range.mp hv⟩
  · rintro ⟨u, v, rfl, a, b⟩
    exact ⟨u, List.mem_range.mpr a, List.mem_map.mpr ⟨v, List.mem_range.mpr b, rfl⟩⟩
theorem grid_nodup (h : Nat) : (grid h).Nodup := by
  unfold grid List.Nodup
  rw [List.pairwise_flatMap]
  constructor
  · intro u _
    rw [List.pairwise_map]
    exact List.Pairwise.imp (fun {a b} hab e => by
      have := congrArg Prod.snd e
      exact hab (Int.ofNat_inj.mp this)) (List.nodup_range (n := h))
  · refine List.Pairwise.imp (fun {a b} hab x hx y hy e => ?_) (List.nodup_range (n := h))
    obtain ⟨v, _, rfl⟩ := List.mem_map.mp hx
    obtain ⟨w, _, rfl⟩ := List.mem_map.mp hy
    have := congrArg Prod.fst e
    exact hab (Int.ofNat_inj.mp this)
def mixL (F : Int → Int → Bool) (s h : Nat) : List Cell := (grid h).filter fun p => decide (lookV F s (p.1 - (2 ^ s - 1)) (p.2 - (2 ^ s - 1)) = 2)
theorem mixL_to (F : Int → Int → Bool) (s h : Nat) : MixedTo F s h h 0 (mixL F s h) := ⟨(grid_nodup h).filter _, fun p => by
  unfold mixL
  rw [List.mem_filter, grid_mem, decide_eq_true_eq]
  constructor
  · rintro ⟨⟨u, v, rfl, a, b⟩, c⟩
    exact ⟨u, v, rfl, a, b, .inl a, c⟩
  · rintro ⟨u, v, rfl, a, b, _, c⟩
    exact ⟨⟨u, v, rfl, a, b⟩, c⟩⟩
/-- mixed windows of size s that leave what a move leaves -/
def mixC (F : Int → Int → Bool) (side s : Nat) (dn rt : Int) : Nat := cnt (mlab s) (mixL F s (side + (2 ^ s - 1))) (dn % 2 ^ s, rt % 2 ^ s)
theorem cnt_same {lb : Cell → Cell} {ps qs : List Cell} (a : ps.Nodup) (b : qs.Nodup) (h : ∀ p, p ∈ ps ↔ p ∈ qs) (l : Cell) : cnt lb ps l = cnt lb qs l := by
  have := (List.perm_ext_iff_of_nodup a b).mpr h
  exact this.countP_eq _
theorem mixN_eq {F : Int → Int → Bool} {side s : Nat} {dn rt : Int} {N : Nat} (h : MixN F side s dn rt N) : N = mixC F side s dn rt := by
  obtain ⟨ps, m, rfl⟩ := h
  have g := mixL_to F s (side + (2 ^ s - 1))
  exact cnt_same m.1 g.1 (fun p => by rw [m.2, g.2]) _
/-- the leaves behind a move -/
def leavesN (F : Int → Int → Bool) (side n : Nat) (dn rt : Int) : Int := 1 + 3 * ((((List.range n).map fun i => mixC F side (i + 1) dn rt).sum : Nat) : Int)
theorem leavesN_of {F : Int → Int → Bool} {side n : Nat} {dn rt : Int} {xs : List Nat} (hl : xs.length = n) (h : ∀ i x, xs[i]? = some x → MixN F side (i + 1) dn rt x) : 1 + 3 * ((xs.sum : Nat) : Int) = leavesN F side n dn rt := by
  have : xs = (List.range n).map fun i => mixC F side (i + 1) dn rt := by
    apply List.ext_getElem?
    intro i
    rw [List.getElem?_map]
    by_cases hi : i < n
    · rw [List.getElem?_range hi]
      rw [List.getElem?_eq_getElem (by omega)]
      exact congrArg some (mixN_eq (h i _ (List.getElem?_eq_getElem (by omega))))
    · rw [List.getElem?_eq_none (by omega), List.getElem?_eq_none (by simp; omega)]; rfl
  unfold leavesN
  rw [← this]
def candL (F : Int → Int → Bool) (n : Nat) (a b c d : Int) : List (List Int) := (movesL a b c d (2 ^ n)).map fun m => leavesN F (2 ^ n) n (m.getD 0 0) (m.getD 1 0) :: m
theorem rangeI_mem' {i j x : Int} : x ∈ rangeI i j ↔ i ≤ x ∧ x < j := by
  unfold rangeI
  rw [List.mem_map]
  constructor
  · rintro ⟨k, hk, rfl⟩
    have := List.mem_range.mp hk
    omega
  · rintro ⟨a, b⟩
    exact ⟨(x - i).toNat, List.mem_range.mpr (by omega), by omega⟩
theorem movesL_mem {a b c d side : Int} {m : List Int} : m ∈ movesL a b c d side ↔ ∃ dn rt, m = [dn, rt] ∧ -a ≤ dn ∧ dn < side - c ∧ -b ≤ rt ∧ rt < side - d := by
  unfold movesL
  rw [List.mem_flatMap]
  constructor
  · rintro ⟨dn, h1, h2⟩
    obtain ⟨rt, h3, rfl⟩ := List.mem_map.mp h2
    have := rangeI_mem'.mp h1
    have := rangeI_mem'.mp h3
    exact ⟨dn, rt, rfl, by omega⟩
  · rintro ⟨dn, rt, rfl, h1, h2, h3, h4⟩
    exact ⟨dn, rangeI_mem'.mpr ⟨h1, h2⟩, List.mem_map.mpr ⟨rt, rangeI_mem'.mpr ⟨h3, h4⟩, rfl⟩⟩
def sp_fewest : DSp := fun ds G Q _ => ∃ (n x : Nat) (T : Rws) (t : QT), ds = [tellD ((n : Nat) : Int) x T] ∧ Canon n x T t ∧ n ≤ 7 ∧ T.length ≤ 100000 ∧ (x = 0 → Q (tupI [1, 0, 0]) G) ∧ (x ≠ 0 → ∀ a b c d, BoundsP (semP t n) a b c d → ∀ u, u ∈ candL (semI t n) n a b c d → (∀ v ∈ candL (semI t n) n a b c d, lexL v u = false) → ∀ G', Ext G G' → Q (tupI u) G')
theorem b_fewest {ds : List D} {G : DG} {Q : DQ} {E : DX} (h : sp_fewest ds G Q E) : R_fewest sp_want_shape sp_all_mixed sp_moves_of sp_leaves_behind { nx := fun _ G' => cl Q .non G', rt := cl Q } (startD 4 ds) G := by
  obtain ⟨n, x, T, t, rfl, c, hn, hT, q0, q1⟩ := h
  unfold R_fewest
  simp only [tellD]
  walk_at "QT"
  refine ⟨n, x, T, t, rfl, c, by omega, szl (by omega), ?_⟩
  walk_at "QT"
  rw [if_neg (by first | (intro z; have := of_decide_eq_true z; omega) | omega)]
  by_cases hx : x = 0
  · rw [if_pos (decide_eq_true (by omega))]
    exact cl_of (q0 hx)
  · rw [if_neg (fun z => hx (by have := of_decide_eq_true z; omega))]
    obtain ⟨r0, c0, hrc⟩ := den_some c.ok c.den hx n c.ht
    refine ⟨n, x, T, t, rfl, c, hn, hT, fun l ms G1 hl hms hm he => ?_⟩
    refine ⟨n, x, T, t, rfl, c, hn, hT, fun hno => absurd hrc (hno r0 c0), fun a b cc d hB => ⟨_, rfl, fun l2 hl2 => ?_⟩⟩
    have q2 := q1 hx a b cc d hB
    have hside : 2 ^ n ≤ 128 := Nat.le_trans (Nat.pow_le_pow_right (by decide) hn) (by decide)
    have hpn := pow_cast n
    have hin : ∀ r c, semP t n r c → 0 ≤ r ∧ r < 2 ^ n ∧ 0 ≤ c ∧ c < 2 ^ n := fun r c h => semI_in _ _ _ _ h
    have hlen : (candL (semI t n) n a b cc d).length ≤ 1000000 := by
      unfold candL
      rw [List.length_map, movesL_len]
      obtain ⟨x1, y1, h1, e1⟩ := hB.a1
      obtain ⟨x2, y2, h2, e2⟩ := hB.b1
      obtain ⟨x3, y3, h3, e3⟩ := hB.c1
      obtain ⟨x4, y4, h4, e4⟩ := hB.d1
      have := hin _ _ h1
      have := hin _ _ h2
      have := hin _ _ h3
      have := hin _ _ h4
      have l1 : (2 ^ n - cc - -a).toNat ≤ 256 := by omega
      have l2 : (2 ^ n - d - -b).toNat ≤ 256 := by omega
      have := Nat.mul_le_mul l1 l2
      omega
    have hne : candL (semI t n) n a b cc d ≠ [] := by
      obtain ⟨x1, y1, h1, e1⟩ := hB.a1
      obtain ⟨x2, y2, h2, e2⟩ := hB.b1
      obtain ⟨x3, y3, h3, e3⟩ := hB.c1
      obtain ⟨x4, y4, h4, e4⟩ := hB.d1
      have := hin _ _ h1
      have := hin _ _ h2
      have := hin _ _ h3
      have := hin _ _ h4
      have hm0 : [0, 0] ∈ movesL a b cc d (2 ^ n) := movesL_mem.mpr ⟨0, 0, rfl, by omega⟩
      intro z
      have := List.mem_map_of_mem (f := fun m => leavesN (semI t n) (2 ^ n) n (m.getD 0 0) (m.getD 1 0) :: m) hm0
      unfold candL at z
      rw [z] at this
      cases this
    let f : D → Option D := fun d => match d with | .tup [.int dn, .int rt] => some (tupI [leavesN (semI t n) (2 ^ n) n dn rt, dn, rt]) | _ => none
    have hf : ((movesL a b cc d (2 ^ n)).map tupI).filterMap f = (candL (semI t n) n a b cc d).map tupI := by
      unfold candL
      rw [List.map_map]
      have : ∀ ms : List (List Int), (∀ m ∈ ms, ∃ dn rt, m = [dn, rt]) → (ms.map tupI).filterMap f = ms.map (tupI ∘ fun m => leavesN (semI t n) (2 ^ n) n (m.getD 0 0) (m.getD 1 0) :: m) := fun ms => by
        induction ms with
        | nil => intro _; rfl
        | cons m ms ih =>
          intro h
          obtain ⟨dn, rt, rfl⟩ := h m List.mem_cons_self
          have e : f (tupI [dn, rt]) = some (tupI [leavesN (semI t n) (2 ^ n) n dn rt, dn, rt]) := rfl
          rw [List.map_cons, List.filterMap_cons, e, ih fun m hm => h m (List.mem_cons_of_mem _ hm)]
          rfl
      exact this _ fun m hm => by
        obtain ⟨dn, rt, e, _⟩ := movesL_mem.mp hm
        exact ⟨dn, rt, e⟩
    refine lceach_pure f hl2 (fun G' e => rfl) (fun y hy => ?_) ?_ ?_
    · obtain ⟨m, hm1, rfl⟩ := List.mem_map.mp hy
      obtain ⟨dn, rt, rfl, hmv⟩ := movesL_mem.mp hm1
      refine ⟨_, rfl, fun G' e Kt Kf hk => ?_⟩
      have hk' : Kt (tupI [leavesN (semI t n) (2 ^ n) n dn rt, dn, rt]) G' := hk
      walk_at "QT"
      refine ⟨l, ms, semI t n, 2 ^ n, dn, rt, rfl, e _ _ hl, hm.ext fun x _ o hx => e _ _ hx, by omega, hside, fun xs xl hx => ?_⟩
      rw [leavesN_of (xl.trans hms) hx]
      exact hk'
    · rw [hf, List.length_map]; exact sze hlen
    · rw [hf]
      refine ⟨_, up_same, _, rfl, ⟨2, fun u hu => ?_⟩, hne, fun u hu hmin => ?_⟩
      · obtain ⟨m, hm1, rfl⟩ := List.mem_map.mp hu
        obtain ⟨dn, rt, rfl, _⟩ := movesL_mem.mp hm1
        rfl
      · rw [del_up hl2]
        exact cl_of (q2 u hu hmin _ he)
/-! ### the floor behind a shape -/
theorem semI_full : ∀ (n : Nat) (f : Int → Int → Bool) (r c : Int), (semI (full n f) n r c = true) ↔ 0 ≤ r ∧ r < 2 ^ n ∧ 0 ≤ c ∧ c < 2 ^ n ∧ f r c = true
  | 0, f, r, c => by
    show ((f 0 0 && decide (0 ≤ r ∧ r < 2 ^ 0 ∧ 0 ≤ c ∧ c < 2 ^ 0)) = true) ↔ _
    rw [Bool.and_eq_true, decide_eq_true_eq]
    constructor
    · rintro ⟨a, b⟩
      have r0 : r = 0 := by omega
      have c0 : c = 0 := by omega
      subst r0; subst c0
      exact ⟨by omega, by omega, by omega, by omega, a⟩
    · rintro ⟨a, b, c1, d, e⟩
      have r0 : r = 0 := by omega
      have c0 : c = 0 := by omega
      subst r0; subst c0
      exact ⟨e, by omega⟩
  | n + 1, f, r, c => by
    show (semI (.nd (full n f) (full n fun r c => f r (c + 2 ^ n)) (full n fun r c => f (r + 2 ^ n) c) (full n fun r c => f (r + 2 ^ n) (c + 2 ^ n))) (n + 1) r c = true) ↔ _
    rw [semI_nd, semI_full, semI_full, semI_full, semI_full]
    simp only [Int.sub_add_cancel]
    have e2 : (2 : Int) ^ (n + 1) = 2 ^ n * 2 := Int.pow_succ ..
    have hp := pow_pos' n
    constructor
    · rintro (⟨a, b, c1, d, e⟩ | ⟨a, b, c1, d, e⟩ | ⟨a, b, c1, d, e⟩ | ⟨a, b, c1, d, e⟩) <;> exact ⟨by omega, by omega, by omega, by omega, e⟩
    · rintro ⟨a, b, c1, d, e⟩
      by_cases h1 : r < 2 ^ n
      · by_cases h2 : c < 2 ^ n
        · exact .inl ⟨a, h1, c1, h2, e⟩
        · exact .inr (.inl ⟨a, h1, by omega, by omega, e⟩)
      · by_cases h2 : c < 2 ^ n
        · exact .inr (.inr (.inl ⟨by omega, by omega, c1, h2, e⟩))
        · exact .inr (.inr (.inr ⟨by omega, by omega, by omega, by omega, e⟩))
theorem semI_red : ∀ (t : QT) (n : Nat), ht t ≤ n → ∀ r c, (semI (red t) n r c = true) ↔ semI t n r c = true
  | .lf b, n, _, r, c => Iff.rfl
  | .nd ta tb tc td, 0, h, r, c => by
    have : 1 + max (max (ht ta) (ht tb)) (max (ht tc) (ht td)) ≤ 0 := h
    omega
  | .nd ta tb tc td, n + 1, h, r, c => by
    have h : 1 + max (max (ht ta) (ht tb)) (max (ht tc) (ht td)) ≤ n + 1 := h
    have i1 := semI_red ta n (by omega)
    have i2 := semI_red tb n (by omega)
    have i3 := semI_red tc n (by omega)
    have i4 := semI_red td n (by omega)
    rw [semI_nd, ← i1, ← i2, ← i3, ← i4]
    show (semI (mkT (red ta) (red tb) (red tc) (red td)) (n + 1) r c = true) ↔ _
    have e2 : (2 : Int) ^ (n + 1) = 2 ^ n * 2 := Int.pow_succ ..
    have hp := pow_pos' n
    unfold mkT
    split
    · rename_i z
      obtain ⟨a, b, c1, d⟩ := z
      rw [a, b, c1, d]
      simp [semI]
    · split
      · rename_i z
        obtain ⟨a, b, c1, d⟩ := z
        rw [a, b, c1, d]
        simp only [semI, Bool.true_and, decide_eq_true_eq]
        omega
      · exact semI_nd
theorem den0 {T : Rws} {t : QT} (h : Den T 0 t) : t = .lf false := by
  cases h
  rfl
theorem canon_of {n : Nat} (f : Int → Int → Bool) : Canon n (tell (full n f) []).1 (tell (full n f) []).2 (red (full n f)) := by
  have h := tell_den (full n f) [] OkR.nil
  exact ⟨h.1, h.2, tell_red _ [] OkR.nil, Nat.le_trans (ht_red _) (Nat.le_of_eq (full_ht n f))⟩
theorem floor_of {n : Nat} (f : Int → Int → Bool) (r c : Int) : (semI (red (full n f)) n r c = true) ↔ 0 ≤ r ∧ r < 2 ^ n ∧ 0 ≤ c ∧ c < 2 ^ n ∧ f r c = true := by
  rw [semI_red _ n (Nat.le_of_eq (full_ht n f)), semI_full]
/-! ### windows and counts -/
theorem countP_one {cs : List Cell} (h : cs.Nodup) (q : Cell) : cs.countP (fun p => decide (p = q)) = if q ∈ cs then 1 else 0 := by
  induction cs with
  | nil => rfl
  | cons a as ih =>
    obtain ⟨h1, h2⟩ := List.nodup_cons.mp h
    rw [List.countP_cons, ih h2]
    by_cases e : a = q
    · subst e
      rw [if_neg h1]
      simp
    · by_cases m : q ∈ as
      · rw [if_pos m]; simp [e, m]
      · rw [if_neg m]
        have : q ∉ a :: as := fun z => by
          rcases List.mem_cons.mp z with z | z
          · exact e z.symm
          · exact m z
        rw [if_neg this]
        simp [e]
def wc (cs : List Cell) (k : Nat) (r c : Int) : Nat := cs.countP fun p => decide (r ≤ p.1 ∧ p.1 < r + 2 ^ k ∧ c ≤ p.2 ∧ p.2 < c + 2 ^ k)
theorem wc_succ (cs : List Cell) (k : Nat) (r c : Int) : wc cs (k + 1) r c = wc cs k r c + wc cs k r (c + 2 ^ k) + wc cs k (r + 2 ^ k) c + wc cs k (r + 2 ^ k) (c + 2 ^ k) := by
  have e2 : (2 : Int) ^ (k + 1) = 2 ^ k * 2 := Int.pow_succ ..
  have hp := pow_pos' k
  unfold wc
  rw [e2]
  induction cs with
  | nil => rfl
  | cons a as ih =>
    simp only [List.countP_cons, decide_eq_true_eq] at ih ⊢
    rw [ih]
    generalize (2 : Int) ^ k = m at *
    split <;> split <;> split <;> split <;> split <;> omega
theorem look_wc {F : Int → Int → Bool} {cs : List Cell} (hn : cs.Nodup) (hF : ∀ r c, F r c = true ↔ (r, c) ∈ cs) : ∀ (k : Nat) (r c : Int), wc cs k r c ≤ 4 ^ k ∧ lookV F k r c = if wc cs k r c = 0 then 0 else if wc cs k r c = 4 ^ k then 1 else 2
  | 0, r, c => by
    have e : wc cs 0 r c = if (r, c) ∈ cs then 1 else 0 := by
      rw [← countP_one hn (r, c)]
      unfold wc
      refine List.countP_congr fun p _ => ?_
      rw [decide_eq_true_eq, decide_eq_true_eq]
      constructor
      · rintro ⟨a, b, c1, d⟩
        exact Prod.ext (by simp; omega) (by simp; omega)
      · intro e
        rw [e]
        simp
        omega
    rw [e]
    show _ ∧ (if F r c = true then (1 : Int) else 0) = _
    by_cases h : (r, c) ∈ cs
    · rw [if_pos h, if_pos ((hF r c).mpr h)]
      simp
    · rw [if_neg h, if_neg fun z => h ((hF r c).mp z)]
      simp
  | k + 1, r, c => by
    have i1 := look_wc hn hF k r c
    have i2 := look_wc hn hF k r (c + 2 ^ k)
    have i3 := look_wc hn hF k (r + 2 ^ k) c
    have i4 := look_wc hn hF k (r + 2 ^ k) (c + 2 ^ k)
    have e4 : 4 ^ (k + 1) = 4 ^ k * 4 := Nat.pow_succ ..
    have p4 : 0 < 4 ^ k := Nat.pow_pos (by decide)
    rw [wc_succ, e4]
    unfold lookV
    rw [i1.2, i2.2, i3.2, i4.2]
    have b1 := i1.1
    have b2 := i2.1
    have b3 := i3.1
    have b4 := i4.1
    generalize wc cs k r c = w1 at *
    generalize wc cs k r (c + 2 ^ k) = w2 at *
    generalize wc cs k (r + 2 ^ k) c = w3 at *
    generalize wc cs k (r + 2 ^ k) (c + 2 ^ k) = w4 at *
    generalize 4 ^ k = m at *
    refine ⟨by omega, ?_⟩
    clear i1 i2 i3 i4 e4
    by_cases z1 : w1 = 0 <;> by_cases z2 : w2 = 0 <;> by_cases z3 : w3 = 0 <;> by_cases z4 : w4 = 0 <;> simp only [z1, z2, z3, z4, if_true, if_false] <;> repeat' split
    all_goals first | rfl | omega | (exfalso; simp_all; done)
theorem div_is {x m q : Int} (hm : 0 < m) : x / m = q ↔ q * m ≤ x ∧ x < q * m + m := by
  constructor
  · rintro rfl
    have h1 := Int.mul_ediv_add_emod x m
    have h2 := Int.emod_nonneg x (Int.ne_of_gt hm)
    have h3 := Int.emod_lt_of_pos x hm
    rw [Int.mul_comm] at h1
    omega
  · rintro ⟨a, b⟩
    have h1 : q ≤ x / m := (Int.le_ediv_iff_mul_le hm).mpr a
    have h2 : x / m < q + 1 := (Int.ediv_lt_iff_lt_mul hm).mpr (by rw [Int.add_mul, Int.one_mul]; exact b)
    omega
def mvd (dn rt : Int) (cs : List Cell) : List Cell := cs.map fun p => ((p.1 + dn, p.2 + rt) : Cell)
theorem cnt_wc (cs : List Cell) (k : Nat) (dn rt : Int) (l : Cell) : cnt (lab k) (mvd dn rt cs) l = wc cs k (l.1 * 2 ^ k - dn) (l.2 * 2 ^ k - rt) := by
  unfold cnt mvd wc
  rw [List.countP_map]
  refine List.countP_congr fun p _ => ?_
  have hp := pow_pos' k
  show (decide (lab k (p.1 + dn, p.2 + rt) = l) = true) ↔ _
  rw [decide_eq_true_eq, decide_eq_true_eq]
  unfold lab
  rw [Prod.ext_iff]
  show ((p.1 + dn) / 2 ^ k = l.1 ∧ (p.2 + rt) / 2 ^ k = l.2) ↔ _
  rw [div_is hp, div_is hp]
  omega
theorem mod_is {x y m : Int} (hm : 0 < m) (h : x % m = y % m) : ∃ q, x - y = q * m := by
  have h1 := Int.mul_ediv_add_emod x m
  have h2 := Int.mul_ediv_add_emod y m
  refine ⟨x / m - y / m, ?_⟩
  rw [Int.sub_mul, Int.mul_comm (x / m), Int.mul_comm (y / m)]
  omega
theorem mod_to {x y m q : Int} (h : x - y = q * m) : x % m = y % m := by
  have : x = y + q * m := by omega
  rw [this, Int.add_mul_emod_self_right]
theorem mix_part {F : Int → Int → Bool} {side k : Nat} (hF : Within F side) {cs : List Cell} (hn : cs.Nodup) (hcs : ∀ r c, F r c = true ↔ (r, c) ∈ cs) (dn rt : Int) : IsPart (mvd dn rt cs) k (mixC F side k dn rt) := by
  have hp := pow_pos' k
  have hpn := pow_cast k
  have hmx := mixL_to F k (side + (2 ^ k - 1))
  have hlk : ∀ l : Cell, (0 < cnt (lab k) (mvd dn rt cs) l ∧ cnt (lab k) (mvd dn rt cs) l < 4 ^ k) ↔ lookV F k (l.1 * 2 ^ k - dn) (l.2 * 2 ^ k - rt) = 2 := fun l => by
    rw [cnt_wc]
    obtain ⟨h1, h2⟩ := look_wc hn hcs k (l.1 * 2 ^ k - dn) (l.2 * 2 ^ k - rt)
    rw [h2]
    split
    · constructor
      · intro z; omega
      · intro z; cases z
    · split
      · constructor
        · intro z; omega
        · intro z; cases z
      · constructor
        · intro z; rfl
        · intro z; omega
  let fl := (mixL F k (side + (2 ^ k - 1))).filter fun p => decide (mlab k p = (dn % 2 ^ k, rt % 2 ^ k))
  let g : Cell → Cell := fun p => ((p.1 - (2 ^ k - 1) + dn) / 2 ^ k, (p.2 - (2 ^ k - 1) + rt) / 2 ^ k)
  have hfl : ∀ p ∈ fl, (∃ q, p.1 - (2 ^ k - 1) + dn = q * 2 ^ k) ∧ (∃ q, p.2 - (2 ^ k - 1) + rt = q * 2 ^ k) := fun p h => by
    have h2 := of_decide_eq_true (List.mem_filter.mp h).2
    unfold mlab at h2
    obtain ⟨e1, e2⟩ := Prod.ext_iff.mp h2
    obtain ⟨q1, f1⟩ := mod_is hp e1
    obtain ⟨q2, f2⟩ := mod_is hp e2
    exact ⟨⟨-q1, by rw [Int.neg_mul]; omega⟩, ⟨-q2, by rw [Int.neg_mul]; omega⟩⟩
  have hg : ∀ p ∈ fl, p.1 - (2 ^ k - 1) + dn = (g p).1 * 2 ^ k ∧ p.2 - (2 ^ k - 1) + rt = (g p).2 * 2 ^ k := fun p h => by
    obtain ⟨⟨q1, e1⟩, ⟨q2, e2⟩⟩ := hfl p h
    have d1 : (p.1 - (2 ^ k - 1) + dn) / 2 ^ k = q1 := (div_is hp).mpr (by omega)
    have d2 : (p.2 - (2 ^ k - 1) + rt) / 2 ^ k = q2 := (div_is hp).mpr (by omega)
    show _ = (p.1 - (2 ^ k - 1) + dn) / 2 ^ k * 2 ^ k ∧ _ = (p.2 - (2 ^ k - 1) + rt) / 2 ^ k * 2 ^ k
    rw [d1, d2]
    exact ⟨e1, e2⟩
  refine ⟨fl.map g, ?_, fun l => ?_, ?_⟩
  · unfold List.Nodup
    rw [List.pairwise_map]
    have nd : fl.Nodup := hmx.1.filter _
    refine List.Pairwise.imp_of_mem (fun {a b} ha hb hab e => hab ?_) nd
    have h1 := hg a ha
    have h2 := hg b hb
    rw [e] at h1
    exact Prod.ext (by omega) (by omega)
  · rw [hlk, List.mem_map]
    constructor
    · rintro ⟨p, h, rfl⟩
      have h1 := hg p h
      have h2 := (List.mem_filter.mp h).1
      obtain ⟨u, v, e, a, b, _, c⟩ := (hmx.2 p).mp h2
      have e1 : (g p).1 * 2 ^ k - dn = ((u : Nat) : Int) - (2 ^ k - 1) := by
        have : p.1 = ((u : Nat) : Int) := by rw [e]
        omega
      have e2 : (g p).2 * 2 ^ k - rt = ((v : Nat) : Int) - (2 ^ k - 1) := by
        have : p.2 = ((v : Nat) : Int) := by rw [e]
        omega
      rw [e1, e2]
      exact c
    · intro h
      by_cases o : l.1 * 2 ^ k - dn + (2 ^ k - 1) < 0 ∨ l.2 * 2 ^ k - rt + (2 ^ k - 1) < 0 ∨ (side : Int) ≤ l.1 * 2 ^ k - dn ∨ (side : Int) ≤ l.2 * 2 ^ k - rt
      · rw [lookV_out hF k _ _ o] at h
        cases h
      · let p : Cell := (l.1 * 2 ^ k - dn + (2 ^ k - 1), l.2 * 2 ^ k - rt + (2 ^ k - 1))
        have hpm : p ∈ fl := by
          refine List.mem_filter.mpr ⟨(hmx.2 p).mpr ⟨(l.1 * 2 ^ k - dn + (2 ^ k - 1)).toNat, (l.2 * 2 ^ k - rt + (2 ^ k - 1)).toNat, ?_, ?_, ?_, .inl ?_, ?_⟩, ?_⟩
          · exact Prod.ext (by show l.1 * 2 ^ k - dn + (2 ^ k - 1) = _; omega) (by show l.2 * 2 ^ k - rt + (2 ^ k - 1) = _; omega)
          · omega
          · omega
          · omega
          · have t1 : (((l.1 * 2 ^ k - dn + (2 ^ k - 1)).toNat : Nat) : Int) - (2 ^ k - 1) = l.1 * 2 ^ k - dn := by omega
            have t2 : (((l.2 * 2 ^ k - rt + (2 ^ k - 1)).toNat : Nat) : Int) - (2 ^ k - 1) = l.2 * 2 ^ k - rt := by omega
            rw [t1, t2]
            exact h
          · refine decide_eq_true ?_
            unfold mlab
            refine Prod.ext (mod_to (q := -l.1) ?_) (mod_to (q := -l.2) ?_)
            · rw [Int.neg_mul]
              show 2 ^ k - 1 - (l.1 * 2 ^ k - dn + (2 ^ k - 1)) - dn = _
              omega
            · rw [Int.neg_mul]
              show 2 ^ k - 1 - (l.2 * 2 ^ k - rt + (2 ^ k - 1)) - rt = _
              omega
        refine ⟨p, hpm, ?_⟩
        refine Prod.ext ((div_is hp).mpr ?_) ((div_is hp).mpr ?_)
        · show _ ≤ l.1 * 2 ^ k - dn + (2 ^ k - 1) - (2 ^ k - 1) + dn ∧ l.1 * 2 ^ k - dn + (2 ^ k - 1) - (2 ^ k - 1) + dn < _
          omega
        · show _ ≤ l.2 * 2 ^ k - rt + (2 ^ k - 1) - (2 ^ k - 1) + rt ∧ l.2 * 2 ^ k - rt + (2 ^ k - 1) - (2 ^ k - 1) + rt < _
          omega
  · rw [List.length_map]
    unfold mixC cnt
    rw [List.countP_eq_length_filter]
theorem part_sum {cs : List Cell} {n : Nat} {g : Nat → Nat} (hg : ∀ k, IsPart cs k (g k)) {xs : List Nat} (hl : xs.length = n) (h : ∀ i x, xs[i]? = some x → IsPart cs (i + 1) x) : xs = (List.range n).map fun i => g (i + 1) := by
  apply List.ext_getElem?
  intro i
  rw [List.getElem?_map]
  by_cases hi : i < n
  · rw [List.getElem?_range hi, List.getElem?_eq_getElem (by omega)]
    exact congrArg some ((h i _ (List.getElem?_eq_getElem (by omega))).uniq (hg (i + 1)))
  · rw [List.getElem?_eq_none (by omega), List.getElem?_eq_none (by simp; omega)]; rfl
theorem part_le {cs : List Cell} {k N : Nat} (h : IsPart cs k N) : N ≤ cs.length := by
  obtain ⟨L, nd, hm, rfl⟩ := h
  have := nodup_le L (cs.map (lab k)) nd fun l hl => by
    have := ((hm l).mp hl).1
    unfold cnt at this
    obtain ⟨p, hp, e⟩ := List.countP_pos_iff.mp this
    exact List.mem_map.mpr ⟨p, hp, of_decide_eq_true e⟩
  rwa [List.length_map] at this
theorem moves_use {cs : List Cell} {side : Int} {G : DG} {K : DQ} {E : DX} (h1 : cs.length ≤ 1000) (h2 : 0 ≤ side) (h3 : side ≤ 128) (h4 : ∀ p ∈ cs, 0 ≤ p.1 ∧ p.1 < side ∧ 0 ≤ p.2 ∧ p.2 < side) (h : ∀ mv : List (List Int), (cs = [] ∧ mv = [[0, 0]]) ∨ (∃ a b c d, IsBounds cs a b c d ∧ mv = movesL a b c d side) → K (.lst (mv.map tupI)) G) : sp_law_moves [.lst (cs.map cellD), .int side] G K E :=
  ⟨cs, side, rfl, h1, h2, h3, h4, fun e => h [[0, 0]] (.inl ⟨e, rfl⟩), fun a b c d hB => h _ (.inr ⟨a, b, c, d, hB, rfl⟩)⟩
theorem bounds_same {cs : List Cell} {P : Int → Int → Prop} (hP : ∀ r c, P r c ↔ (r, c) ∈ cs) {a b c d a' b' c' d' : Int} (h : IsBounds cs a b c d) (h' : BoundsP P a' b' c' d') : a = a' ∧ b = b' ∧ c = c' ∧ d = d' := by
  obtain ⟨p1, m1, e1⟩ := h.a1
  obtain ⟨p2, m2, e2⟩ := h.b1
  obtain ⟨p3, m3, e3⟩ := h.c1
  obtain ⟨p4, m4, e4⟩ := h.d1
  obtain ⟨x1, y1, n1, f1⟩ := h'.a1
  obtain ⟨x2, y2, n2, f2⟩ := h'.b1
  obtain ⟨x3, y3, n3, f3⟩ := h'.c1
  obtain ⟨x4, y4, n4, f4⟩ := h'.d1
  have := h.a2 _ ((hP _ _).mp n1)
  have := h.b2 _ ((hP _ _).mp n2)
  have := h.c2 _ ((hP _ _).mp n3)
  have := h.d2 _ ((hP _ _).mp n4)
  have := h'.a2 _ _ ((hP p1.1 p1.2).mpr m1)
  have := h'.b2 _ _ ((hP p2.1 p2.2).mpr m2)
  have := h'.c2 _ _ ((hP p3.1 p3.2).mpr m3)
  have := h'.d2 _ _ ((hP p4.1 p4.2).mpr m4)
  simp only at *
  omega
def sp_law_right : DSp := fun ds G Q _ => ∃ (n : Nat) (cs : List Cell), ds = [.int ((n : Nat) : Int), .lst (cs.map cellD)] ∧ n ≤ 4 ∧ cs.Nodup ∧ (∀ p ∈ cs, 0 ≤ p.1 ∧ p.1 < 2 ^ n ∧ 0 ≤ p.2 ∧ p.2 < 2 ^ n) ∧ ∀ G', Ext G G' → Q (.bl true) G'
theorem b_law_right {ds : List D} {G : DG} {Q : DQ} {E : DX} (h : sp_law_right ds G Q E) : R_law_right sp_law_moves sp_law_parted sp_law_moved sp_fewest sp_law_shape { nx := fun _ G' => cl Q .non G', rt := cl Q } (startD 5 ds) G := by
  obtain ⟨n, cs, rfl, hn, hnd, hin, q⟩ := h
  have hp16 : 2 ^ n ≤ 16 := Nat.le_trans (Nat.pow_le_pow_right (by decide) hn) (by decide)
  have hpn := pow_cast n
  have hclen : cs.length ≤ 256 := by
    have := nodup_le cs (grid (2 ^ n)) hnd fun p hp => by
      have := hin p hp
      exact grid_mem.mpr ⟨p.1.toNat, p.2.toNat, Prod.ext (by simp; omega) (by simp; omega), by omega, by omega⟩
    have g : (grid (2 ^ n)).length = 2 ^ n * 2 ^ n := by
      unfold grid
      rw [List.length_flatMap]
      have : ∀ l : List Nat, (l.map fun a => ((List.range (2 ^ n)).map fun v => ((((a : Nat) : Int), ((v : Nat) : Int)) : Cell)).length).sum = l.length * 2 ^ n := fun l => by
        induction l with
        | nil => simp
        | cons a l ih => rw [List.map_cons, List.sum_cons, ih, List.length_cons, Nat.succ_mul, List.length_map, List.length_range]; omega
      rw [this, List.length_range]
    have := Nat.mul_le_mul hp16 hp16
    omega
  let t := red (full n (cellF cs))
  have hF : ∀ r c, semI t n r c = true ↔ (r, c) ∈ cs := fun r c => by
    show semI (red (full n (cellF cs))) n r c = true ↔ _
    rw [floor_of]
    unfold cellF
    rw [decide_eq_true_eq]
    exact ⟨fun h => h.2.2.2.2, fun h => by have := hin _ h; exact ⟨this.1, this.2.1, this.2.2.1, this.2.2.2, h⟩⟩
  have hwi : Within (semI t n) (2 ^ n) := fun r c h => by
    have := semI_in _ _ _ _ h
    omega
  have hgp : ∀ dn rt k, IsPart (mvd dn rt cs) k (mixC (semI t n) (2 ^ n) k dn rt) := fun dn rt k => mix_part hwi hnd hF dn rt
  have hcan : Canon n (tell (full n (cellF cs)) []).1 (tell (full n (cellF cs)) []).2 t := canon_of _
  have hTl : (tell (full n (cellF cs)) []).2.length ≤ 100000 := by
    have := full_len n (cellF cs) []
    have h4 : 4 ^ n ≤ 4 ^ 4 := Nat.pow_le_pow_right (by decide) hn
    simp at this
    omega
  have hpw : (1 : Int) * 2 ^ (((n : Nat) : Int).toNat) = 2 ^ n := by rw [Int.one_mul, Int.toNat_natCast]
  unfold R_law_right
  walk_at "QT"
  intro l hl
  rw [hpw]
  refine ⟨⟨by omega, by omega, by decide⟩, ?_⟩
  have hs0 : (0 : Int) ≤ 2 ^ n := Int.le_of_lt (pow_pos' n)
  have hs1 : (2 : Int) ^ n ≤ 128 := by omega
  refine moves_use (side := 2 ^ n) (by omega) hs0 hs1 (fun p hp => hin p hp) fun mv hmv => ⟨_, rfl, ?_⟩
  have hm2 : ∀ m ∈ mv, ∃ dn rt, m = [dn, rt] := fun m hm => by
    rcases hmv with ⟨_, rfl⟩ | ⟨a, b, c, d, _, rfl⟩
    · rw [List.mem_singleton.mp hm]; exact ⟨0, 0, rfl⟩
    · obtain ⟨dn, rt, e, _⟩ := movesL_mem.mp hm
      exact ⟨dn, rt, e⟩
  have hml : mv.length ≤ 100000 := by
    rcases hmv with ⟨_, rfl⟩ | ⟨a, b, c, d, hB, rfl⟩
    · decide
    · rw [movesL_len]
      obtain ⟨p1, m1, e1⟩ := hB.a1
      obtain ⟨p2, m2, e2⟩ := hB.b1
      obtain ⟨p3, m3, e3⟩ := hB.c1
      obtain ⟨p4, m4, e4⟩ := hB.d1
      have := hin _ m1
      have := hin _ m2
      have := hin _ m3
      have := hin _ m4
      have l1 : (2 ^ n - c - -a).toNat ≤ 64 := by omega
      have l2 : (2 ^ n - d - -b).toNat ≤ 64 := by omega
      have := Nat.mul_le_mul l1 l2
      omega
  let due : List Int → List Int := fun m => leavesN (semI t n) (2 ^ n) n (m.getD 0 0) (m.getD 1 0) :: m
  let dueD : D → D := fun d => match d with | .tup [.int dn, .int rt] => tupI [leavesN (semI t n) (2 ^ n) n dn rt, dn, rt] | _ => .non
  have hdue : (mv.map tupI).map dueD = (mv.map due).map tupI := by
    rw [List.map_map, List.map_map]
    refine List.map_congr_left fun m hm => ?_
    obtain ⟨dn, rt, rfl⟩ := hm2 m hm
    rfl
  refine feach_inv (fun pre τ G' => ∃ o3, τ = [some (.int ((n : Nat) : Int)), some (.lst (cs.map cellD)), some (.ref l), o3, none] ∧ G' = up G l (.lst (pre.map dueD))) ?_ ?_ ?_ ?_
  · exact ⟨_, rfl, rfl⟩
  · exact fun _ _ _ _ => rfl
  · rintro pre d post τ G1 e ⟨o3, rfl, rfl⟩
    have hd : d ∈ mv.map tupI := by rw [e]; simp
    obtain ⟨m, hm, rfl⟩ := List.mem_map.mp hd
    obtain ⟨dn, rt, rfl⟩ := hm2 m hm
    have pl : pre.length < mv.length := by
      have := congrArg List.length e
      simp at this
      omega
    refine ⟨_, rfl, fun K hK => ?_⟩
    walk_at "QT"
    refine ⟨⟨_, rfl⟩, cs, dn, rt, rfl, by omega, ?_⟩
    refine ⟨mvd dn rt cs, n, rfl, by unfold mvd; rw [List.length_map]; omega, by omega, fun xs xl hx => ?_⟩
    have hxs := part_sum (n := n) (g := fun k => mixC (semI t n) (2 ^ n) k dn rt) (fun k => hgp dn rt k) xl hx
    have hsum : (xs.map fun (x : Nat) => ((x : Nat) : Int)).sum = ((xs.sum : Nat) : Int) := by
      clear hxs hx xl
      induction xs with
      | nil => rfl
      | cons a as ih => rw [List.map_cons, List.sum_cons, ih, List.sum_cons, Int.natCast_add]
    have hlv : 1 + 3 * ((xs.sum : Nat) : Int) = leavesN (semI t n) (2 ^ n) n dn rt := by
      unfold leavesN
      rw [hxs]
    refine ⟨xs.map fun (x : Nat) => ((x : Nat) : Int), by rw [List.map_map]; rfl, cmulL (by decide) (by decide), _, rfl, sze (by simp), _, up_same, szl (by simp; omega), ?_⟩
    rw [hsum, hlv, up_up]
    refine hK _ _ ⟨_, rfl, ?_⟩
    rw [List.map_append]
    rfl
  · rintro τ G1 ⟨o3, rfl, rfl⟩
    rw [hdue]
    walk_at "QT"
    refine ⟨n, cs, rfl, by omega, by omega, ?_⟩
    have hl3 : ∀ z ∈ mv.map due, z.length = 3 := fun z hz => by
      obtain ⟨m, hm, rfl⟩ := List.mem_map.mp hz
      obtain ⟨dn, rt, rfl⟩ := hm2 m hm
      rfl
    have fin : ∀ (u : List Int) (G2 : DG), u ∈ mv.map due → (∀ v ∈ mv.map due, lexL v u = false) → Ext (up G l (.lst ((mv.map due).map tupI))) G2 → ∀ w, w ∈ mv.map due → (∀ v ∈ mv.map due, lexL v w = false) → okD (vD G2 (tupI u)) = true ∧ okD (vD G2 (tupI w)) = true ∧ cl Q (.bl (deqv (vD G2 (tupI u)) (vD G2 (tupI w)))) G2 := fun u G2 hu hum he w hw hwm => by
      have e : u = w := lexL_eq u w ((hl3 u hu).trans (hl3 w hw).symm) (hwm u hu) (hum w hw)
      subst e
      have ev : vD G2 (tupI u) = tupI u := rfl
      rw [ev]
      have ok := okD_of (tupI_nice u) (Nat.le_trans (tupI_dep u) (by decide))
      refine ⟨ok, ok, ?_⟩
      rw [deqv_self (tupI_nice u)]
      exact cl_of (q G2 ((Ext.new hl).trans he))
    refine ⟨n, _, _, t, rfl, hcan, by omega, hTl, fun x0 => ?_, fun hx a b c d hB u hu hmin G2 he => ?_⟩
    · have ht0 : t = .lf false := by
        have := hcan.den
        rw [x0] at this
        exact den0 this
      have hc0 : cs = [] := by
        cases hcs : cs with
        | nil => rfl
        | cons p ps =>
          have := (hF p.1 p.2).mpr (by rw [hcs]; exact List.mem_cons_self)
          rw [ht0] at this
          simp [semI] at this
      have hmv0 : mv = [[0, 0]] := by
        rcases hmv with ⟨_, e⟩ | ⟨a, b, c, d, hB, _⟩
        · exact e
        · obtain ⟨p, hp, _⟩ := hB.a1
          rw [hc0] at hp
          cases hp
      have hlv : leavesN (semI t n) (2 ^ n) n 0 0 = 1 := by
        unfold leavesN
        have : ∀ l : List Nat, (l.map fun i => mixC (semI t n) (2 ^ n) (i + 1) 0 0).sum = 0 := fun l => by
          induction l with
          | nil => rfl
          | cons a as ih =>
            rw [List.map_cons, List.sum_cons, ih]
            have := part_le (hgp 0 0 (a + 1))
            rw [hc0] at this
            have e : (mvd 0 0 []).length = 0 := rfl
            omega
        rw [this]
        rfl
      have hd0 : mv.map due = [[1, 0, 0]] := by
        rw [hmv0]
        show [leavesN (semI t n) (2 ^ n) n 0 0 :: [0, 0]] = _
        rw [hlv]
      have hu0 : [1, 0, 0] ∈ mv.map due := by rw [hd0]; exact List.mem_cons_self
      refine ⟨(show ("tuple" : String) ≠ "?" by decide), (show ("tuple" : String) ≠ "type" by decide), true, rfl, ?_⟩
      rw [if_pos rfl]
      refine ⟨_, up_same, ⟨2, hl3⟩, ?_, fun w hw hwm => fin _ _ hu0 (fun v hv => by rw [hd0] at hv; rw [List.mem_singleton.mp hv]; exact lexL_self _) (fun _ _ h => h) w hw hwm⟩
      · intro z
        rw [z] at hu0
        cases hu0
    · have hmv1 : mv.map due = candL (semI t n) n a b c d := by
        rcases hmv with ⟨e, _⟩ | ⟨a', b', c', d', hB', e⟩
        · obtain ⟨x1, y1, n1, _⟩ := hB.a1
          have := (hF _ _).mp n1
          rw [e] at this
          cases this
        · obtain ⟨rfl, rfl, rfl, rfl⟩ := bounds_same hF hB' hB
          rw [e]
          rfl
      rw [← hmv1] at hu hmin
      refine ⟨(show ("tuple" : String) ≠ "?" by decide), (show ("tuple" : String) ≠ "type" by decide), true, rfl, ?_⟩
      rw [if_pos rfl]
      refine ⟨_, he _ _ up_same, ⟨2, hl3⟩, ?_, fun w hw hwm => fin u G2 hu hmin he w hw hwm⟩
      · intro z
        rw [z] at hu
        cases hu
def sp_law : DSp := fun ds G Q _ => ∃ ns : List Int, ds = [.scr (ns.map D.int)] ∧ ∀ G', Ext G G' → Q (.bl true) G'
theorem b_law {ds : List D} {G : DG} {Q : DQ} {E : DX} (h : sp_law ds G Q E) : R_law sp_law_row sp_law_right sp_law_cells { nx := fun _ G' => cl Q .non G', rt := cl Q } (startD 3 ds) G := by
  obtain ⟨ns, rfl, q⟩ := h
  unfold R_law
  walk_at "QT"
  refine feach_inv (fun pre τ G' => ∃ o1 o2, τ = [some (.scr (ns.map D.int)), o1, o2] ∧ Ext G G') ?_ ?_ ?_ ?_
  · exact ⟨none, none, rfl, Ext.refl G⟩
  · exact fun _ _ _ _ => trivial
  · rintro pre d post τ G1 e ⟨o1, o2, rfl, he⟩
    have hd : ∃ k : Int, d = .int k ∧ 0 ≤ k ∧ k ≤ 2 := by
      have : d ∈ [D.int 0, D.int 2] := by rw [e]; simp
      simp at this
      rcases this with rfl | rfl
      · exact ⟨0, rfl, by omega⟩
      · exact ⟨2, rfl, by omega⟩
    obtain ⟨k, rfl, k0, k2⟩ := hd
    refine ⟨_, rfl, fun K hK => ?_⟩
    walk_at "QT"
    refine ⟨ns, k + 4, 1, 5, rfl, by omega, by omega, by omega, by omega, by omega, by omega, fun xs xl hx => ?_⟩
    cases xs with
    | nil => cases xl
    | cons y ys =>
    have hy := hx y List.mem_cons_self
    obtain ⟨n, rfl⟩ := Int.eq_ofNat_of_zero_le hy.1
    rw [List.map_cons]
    walk_at "QT"
    have hn : n < 5 := by omega
    refine ⟨ns, k, n, rfl, k0, by omega, by omega, fun cs hnd hin => ?_⟩
    refine ⟨n, cs, rfl, by omega, hnd, hin, fun G2 he2 => ?_⟩
    refine ⟨true, rfl, ?_⟩
    rw [if_neg (by decide)]
    exact hK _ _ ⟨_, _, rfl, he.trans he2⟩
  · rintro τ G1 ⟨o1, o2, rfl, he⟩
    walk_at "QT"
    exact cl_of (q _ he)
end QF
namespace QF
open PySem L2
def top (i : Nat) : Stmt := PySem.Challenge.pw_quarterfold_k85_fewest_leaves_of_all_mov.main.body.getD i (.Pass ⟨0, 0, 0, 0⟩)
abbrev st_law_at : Stmt := top 36
theorem sc_law_at : FnScope N_law_at ["_law_script", "_law_k"] (defScope st_law_at) := ⟨rfl, rfl, rfl, by decide +kernel, rfl, by decide +kernel, by decide +kernel⟩
abbrev st_law_mixed : Stmt := top 37
theorem sc_law_mixed : FnScope N_law_mixed ["_law_number_here", "_law_k"] (defScope st_law_mixed) := ⟨rfl, rfl, rfl, by decide +kernel, rfl, by decide +kernel, by decide +kernel⟩
abbrev st_law_row : Stmt := top 38
theorem sc_law_row : FnScope N_law_row ["_law_script", "_law_k", "_law_many", "_law_base"] (defScope st_law_row) := ⟨rfl, rfl, rfl, by decide +kernel, rfl, by decide +kernel, by decide +kernel⟩
abbrev st_law_bounds : Stmt := top 46
theorem sc_law_bounds : FnScope N_law_bounds ["_law_cells_here"] (defScope st_law_bounds) := ⟨rfl, rfl, rfl, by decide +kernel, rfl, by decide +kernel, by decide +kernel⟩
abbrev st_law_moves : Stmt := top 47
theorem sc_law_moves : FnScope N_law_moves ["_law_cells_here", "_law_side"] (defScope st_law_moves) := ⟨rfl, rfl, rfl, by decide +kernel, rfl, by decide +kernel, by decide +kernel⟩
abbrev st_law_parted : Stmt := top 45
theorem sc_law_parted : FnScope N_law_parted ["_law_cells_here", "_law_n"] (defScope st_law_parted) := ⟨rfl, rfl, rfl, by decide +kernel, rfl, by decide +kernel, by decide +kernel⟩
abbrev st_law_moved : Stmt := top 48
theorem sc_law_moved : FnScope N_law_moved ["_law_cells_here", "_law_move"] (defScope st_law_moved) := ⟨rfl, rfl, rfl, by decide +kernel, rfl, by decide +kernel, by decide +kernel⟩
abbrev st_is_whole : Stmt := top 7
theorem sc_is_whole : FnScope N_is_whole ["thing"] (defScope st_is_whole) := ⟨rfl, rfl, rfl, by decide +kernel, rfl, by decide +kernel, by decide +kernel⟩
abbrev st_is_size : Stmt := top 8
theorem sc_is_size : FnScope N_is_size ["thing"] (defScope st_is_size) := ⟨rfl, rfl, rfl, by decide +kernel, rfl, by decide +kernel, by decide +kernel⟩
abbrev st_is_number : Stmt := top 13
theorem sc_is_number : FnScope N_is_number ["thing", "most"] (defScope st_is_number) := ⟨rfl, rfl, rfl, by decide +kernel, rfl, by decide +kernel, by decide +kernel⟩
abbrev st_is_row : Stmt := top 14
theorem sc_is_row : FnScope N_is_row ["thing", "place"] (defScope st_is_row) := ⟨rfl, rfl, rfl, by decide +kernel, rfl, by decide +kernel, by decide +kernel⟩
abbrev st_depths_of : Stmt := top 15
theorem sc_depths_of : FnScope N_depths_of ["rows"] (defScope st_depths_of) := ⟨rfl, rfl, rfl, by decide +kernel, rfl, by decide +kernel, by decide +kernel⟩
abbrev st_is_telling : Stmt := top 16
theorem sc_is_telling : FnScope N_is_telling ["thing"] (defScope st_is_telling) := ⟨rfl, rfl, rfl, by decide +kernel, rfl, by decide +kernel, by decide +kernel⟩
abbrev st_Rows_init : Stmt := inClass (top 10) 0
theorem sc_Rows_init : FnScope N_Rows_init ["self"] (defScope st_Rows_init) := ⟨rfl, rfl, rfl, by decide +kernel, rfl, by decide +kernel, by decide +kernel⟩
abbrev st_Rows_number : Stmt := inClass (top 10) 1
theorem sc_Rows_number : FnScope N_Rows_number ["self", "quarters"] (defScope st_Rows_number) := ⟨rfl, rfl, rfl, by decide +kernel, rfl, by decide +kernel, by decide +kernel⟩
abbrev st_Rows_take : Stmt := inClass (top 10) 3
theorem sc_Rows_take : FnScope N_Rows_take ["self", "telling"] (defScope st_Rows_take) := ⟨rfl, rfl, rfl, by decide +kernel, rfl, by decide +kernel, by decide +kernel⟩
abbrev st_Rows_quarters : Stmt := inClass (top 10) 2
theorem sc_Rows_quarters : FnScope N_Rows_quarters ["self", "number"] (defScope st_Rows_quarters) := ⟨rfl, rfl, rfl, by decide +kernel, rfl, by decide +kernel, by decide +kernel⟩
abbrev st_Rows_order : Stmt := inClass (top 10) 4
theorem sc_Rows_order : FnScope N_Rows_order ["self", "number", "found"] (defScope st_Rows_order) := ⟨rfl, rfl, rfl, by decide +kernel, rfl, by decide +kernel, by decide +kernel⟩
abbrev st_Rows_shape : Stmt := inClass (top 10) 5
theorem sc_Rows_shape : FnScope N_Rows_shape ["self", "n", "top"] (defScope st_Rows_shape) := ⟨rfl, rfl, rfl, by decide +kernel, rfl, by decide +kernel, by decide +kernel⟩
abbrev st_one_of : Stmt := top 11
theorem sc_one_of : FnScope N_one_of ["telling"] (defScope st_one_of) := ⟨rfl, rfl, rfl, by decide +kernel, rfl, by decide +kernel, by decide +kernel⟩
abbrev st_is_shape : Stmt := top 17
theorem sc_is_shape : FnScope N_is_shape ["thing"] (defScope st_is_shape) := ⟨rfl, rfl, rfl, by decide +kernel, rfl, by decide +kernel, by decide +kernel⟩
abbrev st_want_shape : Stmt := top 18
theorem sc_want_shape : FnScope N_want_shape ["thing"] (defScope st_want_shape) := ⟨rfl, rfl, rfl, by decide +kernel, rfl, by decide +kernel, by decide +kernel⟩
abbrev st_paint : Stmt := top 29
theorem sc_paint : FnScope N_paint ["rows", "number", "box", "looks"] (defScope st_paint) := ⟨rfl, rfl, rfl, by decide +kernel, rfl, by decide +kernel, by decide +kernel⟩
abbrev st_Windows_init : Stmt := inClass (top 26) 0
theorem sc_Windows_init : FnScope N_Windows_init ["self", "size", "looks"] (defScope st_Windows_init) := ⟨rfl, rfl, rfl, by decide +kernel, rfl, by decide +kernel, by decide +kernel⟩
abbrev st_cell_windows : Stmt := top 30
theorem sc_cell_windows : FnScope N_cell_windows ["shape"] (defScope st_cell_windows) := ⟨rfl, rfl, rfl, by decide +kernel, rfl, by decide +kernel, by decide +kernel⟩
abbrev st_one_look : Stmt := top 27
theorem sc_one_look : FnScope N_one_look ["some"] (defScope st_one_look) := ⟨rfl, rfl, rfl, by decide +kernel, rfl, by decide +kernel, by decide +kernel⟩
abbrev st_Windows_far : Stmt := inClass (top 26) 1
theorem sc_Windows_far : FnScope N_Windows_far ["self"] (defScope st_Windows_far) := ⟨rfl, rfl, rfl, by decide +kernel, rfl, by decide +kernel, by decide +kernel⟩
abbrev st_Windows_look : Stmt := inClass (top 26) 2
theorem sc_Windows_look : FnScope N_Windows_look ["self", "row", "column"] (defScope st_Windows_look) := ⟨rfl, rfl, rfl, by decide +kernel, rfl, by decide +kernel, by decide +kernel⟩
abbrev st_greater : Stmt := top 28
theorem sc_greater : FnScope N_greater ["windows", "side"] (defScope st_greater) := ⟨rfl, rfl, rfl, by decide +kernel, rfl, by decide +kernel, by decide +kernel⟩
abbrev st_mixed_by_remainder : Stmt := top 31
theorem sc_mixed_by_remainder : FnScope N_mixed_by_remainder ["windows"] (defScope st_mixed_by_remainder) := ⟨rfl, rfl, rfl, by decide +kernel, rfl, by decide +kernel, by decide +kernel⟩
abbrev st_all_mixed : Stmt := top 32
theorem sc_all_mixed : FnScope N_all_mixed ["shape"] (defScope st_all_mixed) := ⟨rfl, rfl, rfl, by decide +kernel, rfl, by decide +kernel, by decide +kernel⟩
abbrev st_Counts_init : Stmt := inClass (top 20) 0
theorem sc_Counts_init : FnScope N_Counts_init ["self", "shape"] (defScope st_Counts_init) := ⟨rfl, rfl, rfl, by decide +kernel, rfl, by decide +kernel, by decide +kernel⟩
abbrev st_Counts_quarters : Stmt := inClass (top 20) 1
theorem sc_Counts_quarters : FnScope N_Counts_quarters ["self", "number"] (defScope st_Counts_quarters) := ⟨rfl, rfl, rfl, by decide +kernel, rfl, by decide +kernel, by decide +kernel⟩
abbrev st_Counts_ends_of_quarters : Stmt := inClass (top 20) 6
theorem sc_Counts_ends_of_quarters : FnScope N_Counts_ends_of_quarters ["self", "number", "size"] (defScope st_Counts_ends_of_quarters) := ⟨rfl, rfl, rfl, by decide +kernel, rfl, by decide +kernel, by decide +kernel⟩
abbrev st_Counts_ends_in : Stmt := inClass (top 20) 5
theorem sc_Counts_ends_in : FnScope N_Counts_ends_in ["self", "number", "size"] (defScope st_Counts_ends_in) := ⟨rfl, rfl, rfl, by decide +kernel, rfl, by decide +kernel, by decide +kernel⟩
abbrev st_bounds : Stmt := top 21
theorem sc_bounds : FnScope N_bounds ["shape"] (defScope st_bounds) := ⟨rfl, rfl, rfl, by decide +kernel, rfl, by decide +kernel, by decide +kernel⟩
abbrev st_moves_of : Stmt := top 25
theorem sc_moves_of : FnScope N_moves_of ["shape"] (defScope st_moves_of) := ⟨rfl, rfl, rfl, by decide +kernel, rfl, by decide +kernel, by decide +kernel⟩
abbrev st_leaves_behind : Stmt := top 33
theorem sc_leaves_behind : FnScope N_leaves_behind ["mixed", "down", "right"] (defScope st_leaves_behind) := ⟨rfl, rfl, rfl, by decide +kernel, rfl, by decide +kernel, by decide +kernel⟩
abbrev st_fewest : Stmt := top 34
theorem sc_fewest : FnScope N_fewest ["shape"] (defScope st_fewest) := ⟨rfl, rfl, rfl, by decide +kernel, rfl, by decide +kernel, by decide +kernel⟩
abbrev st_law_number : Stmt := top 43
theorem sc_law_number : FnScope N_law_number ["_law_cells_here", "_law_rows", "_law_known", "_law_box"] (defScope st_law_number) := ⟨rfl, rfl, rfl, by decide +kernel, rfl, by decide +kernel, by decide +kernel⟩
abbrev st_law_shape : Stmt := top 44
theorem sc_law_shape : FnScope N_law_shape ["_law_n", "_law_cells_here"] (defScope st_law_shape) := ⟨rfl, rfl, rfl, by decide +kernel, rfl, by decide +kernel, by decide +kernel⟩
abbrev st_law_right : Stmt := top 49
theorem sc_law_right : FnScope N_law_right ["_law_n", "_law_cells_here"] (defScope st_law_right) := ⟨rfl, rfl, rfl, by decide +kernel, rfl, by decide +kernel, by decide +kernel⟩
abbrev st_law_boxed : Stmt := top 39
theorem sc_law_boxed : FnScope N_law_boxed ["_law_boxes_here"] (defScope st_law_boxed) := ⟨rfl, rfl, rfl, by decide +kernel, rfl, by decide +kernel, by decide +kernel⟩
abbrev st_law_boxes : Stmt := top 40
theorem sc_law_boxes : FnScope N_law_boxes ["_law_script", "_law_k", "_law_side", "_law_many"] (defScope st_law_boxes) := ⟨rfl, rfl, rfl, by decide +kernel, rfl, by decide +kernel, by decide +kernel⟩
abbrev st_law_squares : Stmt := top 41
theorem sc_law_squares : FnScope N_law_squares ["_law_script", "_law_k", "_law_n", "_law_many"] (defScope st_law_squares) := ⟨rfl, rfl, rfl, by decide +kernel, rfl, by decide +kernel, by decide +kernel⟩
abbrev st_law_cells : Stmt := top 42
theorem sc_law_cells : FnScope N_law_cells ["_law_script", "_law_k", "_law_n"] (defScope st_law_cells) := ⟨rfl, rfl, rfl, by decide +kernel, rfl, by decide +kernel, by decide +kernel⟩
abbrev st_law : Stmt := top 50
theorem sc_law : FnScope N_law ["_law_script"] (defScope st_law) := ⟨rfl, rfl, rfl, by decide +kernel, rfl, by decide +kernel, by decide +kernel⟩
structure Ad where
  C_Rows : Addr
  C_Windows : Addr
  C_Counts : Addr
  f_law_at : Addr
  d_law_at : FuncData
  f_law_mixed : Addr
  d_law_mixed : FuncData
  f_law_row : Addr
  d_law_row : FuncData
  f_law_bounds : Addr
  d_law_bounds : FuncData
  f_law_moves : Addr
  d_law_moves : FuncData
  f_law_parted : Addr
  d_law_parted : FuncData
  f_law_moved : Addr
  d_law_moved : FuncData
  f_is_whole : Addr
  d_is_whole : FuncData
  f_is_size : Addr
  d_is_size : FuncData
  f_is_number : Addr
  d_is_number : FuncData
  f_is_row : Addr
  d_is_row : FuncData
  f_depths_of : Addr
  d_depths_of : FuncData
  f_is_telling : Addr
  d_is_telling : FuncData
  f_Rows_init : Addr
  d_Rows_init : FuncData
  f_Rows_number : Addr
  d_Rows_number : FuncData
  f_Rows_take : Addr
  d_Rows_take : FuncData
  f_Rows_quarters : Addr
  d_Rows_quarters : FuncData
  f_Rows_order : Addr
  d_Rows_order : FuncData
  f_Rows_shape : Addr
  d_Rows_shape : FuncData
  f_one_of : Addr
  d_one_of : FuncData
  f_is_shape : Addr
  d_is_shape : FuncData
  f_want_shape : Addr
  d_want_shape : FuncData
  f_paint : Addr
  d_paint : FuncData
  f_Windows_init : Addr
  d_Windows_init : FuncData
  f_cell_windows : Addr
  d_cell_windows : FuncData
  f_one_look : Addr
  d_one_look : FuncData
  f_Windows_far : Addr
  d_Windows_far : FuncData
  f_Windows_look : Addr
  d_Windows_look : FuncData
  f_greater : Addr
  d_greater : FuncData
  f_mixed_by_remainder : Addr
  d_mixed_by_remainder : FuncData
  f_all_mixed : Addr
  d_all_mixed : FuncData
  f_Counts_init : Addr
  d_Counts_init : FuncData
  f_Counts_quarters : Addr
  d_Counts_quarters : FuncData
  f_Counts_ends_of_quarters : Addr
  d_Counts_ends_of_quarters : FuncData
  f_Counts_ends_in : Addr
  d_Counts_ends_in : FuncData
  f_bounds : Addr
  d_bounds : FuncData
  f_moves_of : Addr
  d_moves_of : FuncData
  f_leaves_behind : Addr
  d_leaves_behind : FuncData
  f_fewest : Addr
  d_fewest : FuncData
  f_law_number : Addr
  d_law_number : FuncData
  f_law_shape : Addr
  d_law_shape : FuncData
  f_law_right : Addr
  d_law_right : FuncData
  f_law_boxed : Addr
  d_law_boxed : FuncData
  f_law_boxes : Addr
  d_law_boxes : FuncData
  f_law_squares : Addr
  d_law_squares : FuncData
  f_law_cells : Addr
  d_law_cells : FuncData
  f_law : Addr
  d_law : FuncData
structure Txt (K : PySem.W.Frag) (mg : Str → Option Value) (a : Ad) : Prop where
  c_Rows : Cls K a.C_Rows
  c_Windows : Cls K a.C_Windows
  c_Counts : Cls K a.C_Counts
  b_all : mg "all" = none
  b_bool : mg "bool" = none
  b_enumerate : mg "enumerate" = none
  b_int : mg "int" = none
  b_isinstance : mg "isinstance" = none
  b_len : mg "len" = none
  b_max : mg "max" = none
  b_min : mg "min" = none
  b_range : mg "range" = none
  b_sorted : mg "sorted" = none
  b_sum : mg "sum" = none
  b_tuple : mg "tuple" = none
  g_MIXED : ∃ u, mg "MIXED" = some u ∧ RelV (.int 2) u
  g_MOST_FEWEST : ∃ u, mg "MOST_FEWEST" = some u ∧ RelV (.int 7) u
  g_MOST_SIZE : ∃ u, mg "MOST_SIZE" = some u ∧ RelV (.int 12) u
  mk_Counts : Mk K a.C_Counts a.f_Counts_init
  mc_Counts : mg "Counts" = some (.ref a.C_Counts)
  mk_Rows : Mk K a.C_Rows a.f_Rows_init
  mc_Rows : mg "Rows" = some (.ref a.C_Rows)
  mk_Windows : Mk K a.C_Windows a.f_Windows_init
  mc_Windows : mg "Windows" = some (.ref a.C_Windows)
  n_Counts_ends : NoAttr K a.C_Counts "ends"
  n_Counts_leaves : NoAttr K a.C_Counts "leaves"
  n_Counts_parted : NoAttr K a.C_Counts "parted"
  n_Counts_rows : NoAttr K a.C_Counts "rows"
  n_Counts_sums : NoAttr K a.C_Counts "sums"
  n_Rows_numbers : NoAttr K a.C_Rows "numbers"
  n_Rows_rows : NoAttr K a.C_Rows "rows"
  n_Windows_looks : NoAttr K a.C_Windows "looks"
  n_Windows_size : NoAttr K a.C_Windows "size"
  F_law_at : Fun K "_law_at" "_law_at" st_law_at a.f_law_at a.d_law_at
  bi_law_at : Binds K a.d_law_at ["_law_script", "_law_k"] []
  k_law_at : PySem.W.keepIn K (.ref a.f_law_at) = true
  m_law_at : mg "_law_at" = some (.ref a.f_law_at)
  F_law_mixed : Fun K "_law_mixed" "_law_mixed" st_law_mixed a.f_law_mixed a.d_law_mixed
  bi_law_mixed : Binds K a.d_law_mixed ["_law_number_here", "_law_k"] []
  k_law_mixed : PySem.W.keepIn K (.ref a.f_law_mixed) = true
  m_law_mixed : mg "_law_mixed" = some (.ref a.f_law_mixed)
  F_law_row : Fun K "_law_row" "_law_row" st_law_row a.f_law_row a.d_law_row
  bi_law_row : Binds K a.d_law_row ["_law_script", "_law_k", "_law_many", "_law_base"] []
  k_law_row : PySem.W.keepIn K (.ref a.f_law_row) = true
  m_law_row : mg "_law_row" = some (.ref a.f_law_row)
  F_law_bounds : Fun K "_law_bounds" "_law_bounds" st_law_bounds a.f_law_bounds a.d_law_bounds
  bi_law_bounds : Binds K a.d_law_bounds ["_law_cells_here"] []
  k_law_bounds : PySem.W.keepIn K (.ref a.f_law_bounds) = true
  m_law_bounds : mg "_law_bounds" = some (.ref a.f_law_bounds)
  F_law_moves : Fun K "_law_moves" "_law_moves" st_law_moves a.f_law_moves a.d_law_moves
  bi_law_moves : Binds K a.d_law_moves ["_law_cells_here", "_law_side"] []
  k_law_moves : PySem.W.keepIn K (.ref a.f_law_moves) = true
  m_law_moves : mg "_law_moves" = some (.ref a.f_law_moves)
  F_law_parted : Fun K "_law_parted" "_law_parted" st_law_parted a.f_law_parted a.d_law_parted
  bi_law_parted : Binds K a.d_law_parted ["_law_cells_here", "_law_n"] []
  k_law_parted : PySem.W.keepIn K (.ref a.f_law_parted) = true
  m_law_parted : mg "_law_parted" = some (.ref a.f_law_parted)
  F_law_moved : Fun K "_law_moved" "_law_moved" st_law_moved a.f_law_moved a.d_law_moved
  bi_law_moved : Binds K a.d_law_moved ["_law_cells_here", "_law_move"] []
  k_law_moved : PySem.W.keepIn K (.ref a.f_law_moved) = true
  m_law_moved : mg "_law_moved" = some (.ref a.f_law_moved)
  F_is_whole : Fun K "is_whole" "is_whole" st_is_whole a.f_is_whole a.d_is_whole
  bi_is_whole : Binds K a.d_is_whole ["thing"] []
  k_is_whole : PySem.W.keepIn K (.ref a.f_is_whole) = true
  m_is_whole : mg "is_whole" = some (.ref a.f_is_whole)
  F_is_size : Fun K "is_size" "is_size" st_is_size a.f_is_size a.d_is_size
  bi_is_size : Binds K a.d_is_size ["thing"] []
  k_is_size : PySem.W.keepIn K (.ref a.f_is_size) = true
  m_is_size : mg "is_size" = some (.ref a.f_is_size)
  F_is_number : Fun K "is_number" "is_number" st_is_number a.f_is_number a.d_is_number
  bi_is_number : Binds K a.d_is_number ["thing", "most"] []
  k_is_number : PySem.W.keepIn K (.ref a.f_is_number) = true
  m_is_number : mg "is_number" = some (.ref a.f_is_number)
  F_is_row : Fun K "is_row" "is_row" st_is_row a.f_is_row a.d_is_row
  bi_is_row : Binds K a.d_is_row ["thing", "place"] []
  k_is_row : PySem.W.keepIn K (.ref a.f_is_row) = true
  m_is_row : mg "is_row" = some (.ref a.f_is_row)
  F_depths_of : Fun K "depths_of" "depths_of" st_depths_of a.f_depths_of a.d_depths_of
  bi_depths_of : Binds K a.d_depths_of ["rows"] []
  k_depths_of : PySem.W.keepIn K (.ref a.f_depths_of) = true
  m_depths_of : mg "depths_of" = some (.ref a.f_depths_of)
  F_is_telling : Fun K "is_telling" "is_telling" st_is_telling a.f_is_telling a.d_is_telling
  bi_is_telling : Binds K a.d_is_telling ["thing"] []
  k_is_telling : PySem.W.keepIn K (.ref a.f_is_telling) = true
  m_is_telling : mg "is_telling" = some (.ref a.f_is_telling)
  F_Rows_init : Fun K "__init__" "Rows.__init__" st_Rows_init a.f_Rows_init a.d_Rows_init
  bi_Rows_init : Binds K a.d_Rows_init ["self"] []
  k_Rows_init : PySem.W.keepIn K (.ref a.f_Rows_init) = true
  F_Rows_number : Fun K "number" "Rows.number" st_Rows_number a.f_Rows_number a.d_Rows_number
  bi_Rows_number : Binds K a.d_Rows_number ["self", "quarters"] []
  k_Rows_number : PySem.W.keepIn K (.ref a.f_Rows_number) = true
  me_Rows_number : Meth K a.C_Rows "number" a.f_Rows_number
  F_Rows_take : Fun K "take" "Rows.take" st_Rows_take a.f_Rows_take a.d_Rows_take
  bi_Rows_take : Binds K a.d_Rows_take ["self", "telling"] []
  k_Rows_take : PySem.W.keepIn K (.ref a.f_Rows_take) = true
  me_Rows_take : Meth K a.C_Rows "take" a.f_Rows_take
  F_Rows_quarters : Fun K "quarters" "Rows.quarters" st_Rows_quarters a.f_Rows_quarters a.d_Rows_quarters
  bi_Rows_quarters : Binds K a.d_Rows_quarters ["self", "number"] []
  k_Rows_quarters : PySem.W.keepIn K (.ref a.f_Rows_quarters) = true
  me_Rows_quarters : Meth K a.C_Rows "quarters" a.f_Rows_quarters
  F_Rows_order : Fun K "order" "Rows.order" st_Rows_order a.f_Rows_order a.d_Rows_order
  bi_Rows_order : Binds K a.d_Rows_order ["self", "number", "found"] []
  k_Rows_order : PySem.W.keepIn K (.ref a.f_Rows_order) = true
  me_Rows_order : Meth K a.C_Rows "order" a.f_Rows_order
  F_Rows_shape : Fun K "shape" "Rows.shape" st_Rows_shape a.f_Rows_shape a.d_Rows_shape
  bi_Rows_shape : Binds K a.d_Rows_shape ["self", "n", "top"] []
  k_Rows_shape : PySem.W.keepIn K (.ref a.f_Rows_shape) = true
  me_Rows_shape : Meth K a.C_Rows "shape" a.f_Rows_shape
  F_one_of : Fun K "one_of" "one_of" st_one_of a.f_one_of a.d_one_of
  bi_one_of : Binds K a.d_one_of ["telling"] []
  k_one_of : PySem.W.keepIn K (.ref a.f_one_of) = true
  m_one_of : mg "one_of" = some (.ref a.f_one_of)
  F_is_shape : Fun K "is_shape" "is_shape" st_is_shape a.f_is_shape a.d_is_shape
  bi_is_shape : Binds K a.d_is_shape ["thing"] []
  k_is_shape : PySem.W.keepIn K (.ref a.f_is_shape) = true
  m_is_shape : mg "is_shape" = some (.ref a.f_is_shape)
  F_want_shape : Fun K "want_shape" "want_shape" st_want_shape a.f_want_shape a.d_want_shape
  bi_want_shape : Binds K a.d_want_shape ["thing"] []
  k_want_shape : PySem.W.keepIn K (.ref a.f_want_shape) = true
  m_want_shape : mg "want_shape" = some (.ref a.f_want_shape)
  F_paint : Fun K "paint" "paint" st_paint a.f_paint a.d_paint
  bi_paint : Binds K a.d_paint ["rows", "number", "box", "looks"] []
  k_paint : PySem.W.keepIn K (.ref a.f_paint) = true
  m_paint : mg "paint" = some (.ref a.f_paint)
  F_Windows_init : Fun K "__init__" "Windows.__init__" st_Windows_init a.f_Windows_init a.d_Windows_init
  bi_Windows_init : Binds K a.d_Windows_init ["self", "size", "looks"] []
  k_Windows_init : PySem.W.keepIn K (.ref a.f_Windows_init) = true
  F_cell_windows : Fun K "cell_windows" "cell_windows" st_cell_windows a.f_cell_windows a.d_cell_windows
  bi_cell_windows : Binds K a.d_cell_windows ["shape"] []
  k_cell_windows : PySem.W.keepIn K (.ref a.f_cell_windows) = true
  m_cell_windows : mg "cell_windows" = some (.ref a.f_cell_windows)
  F_one_look : Fun K "one_look" "one_look" st_one_look a.f_one_look a.d_one_look
  bi_one_look : Binds K a.d_one_look ["some"] []
  k_one_look : PySem.W.keepIn K (.ref a.f_one_look) = true
  m_one_look : mg "one_look" = some (.ref a.f_one_look)
  F_Windows_far : Fun K "far" "Windows.far" st_Windows_far a.f_Windows_far a.d_Windows_far
  bi_Windows_far : Binds K a.d_Windows_far ["self"] []
  k_Windows_far : PySem.W.keepIn K (.ref a.f_Windows_far) = true
  me_Windows_far : Meth K a.C_Windows "far" a.f_Windows_far
  F_Windows_look : Fun K "look" "Windows.look" st_Windows_look a.f_Windows_look a.d_Windows_look
  bi_Windows_look : Binds K a.d_Windows_look ["self", "row", "column"] []
  k_Windows_look : PySem.W.keepIn K (.ref a.f_Windows_look) = true
  me_Windows_look : Meth K a.C_Windows "look" a.f_Windows_look
  F_greater : Fun K "greater" "greater" st_greater a.f_greater a.d_greater
  bi_greater : Binds K a.d_greater ["windows", "side"] []
  k_greater : PySem.W.keepIn K (.ref a.f_greater) = true
  m_greater : mg "greater" = some (.ref a.f_greater)
  F_mixed_by_remainder : Fun K "mixed_by_remainder" "mixed_by_remainder" st_mixed_by_remainder a.f_mixed_by_remainder a.d_mixed_by_remainder
  bi_mixed_by_remainder : Binds K a.d_mixed_by_remainder ["windows"] []
  k_mixed_by_remainder : PySem.W.keepIn K (.ref a.f_mixed_by_remainder) = true
  m_mixed_by_remainder : mg "mixed_by_remainder" = some (.ref a.f_mixed_by_remainder)
  F_all_mixed : Fun K "all_mixed" "all_mixed" st_all_mixed a.f_all_mixed a.d_all_mixed
  bi_all_mixed : Binds K a.d_all_mixed ["shape"] []
  k_all_mixed : PySem.W.keepIn K (.ref a.f_all_mixed) = true
  m_all_mixed : mg "all_mixed" = some (.ref a.f_all_mixed)
  F_Counts_init : Fun K "__init__" "Counts.__init__" st_Counts_init a.f_Counts_init a.d_Counts_init
  bi_Counts_init : Binds K a.d_Counts_init ["self", "shape"] []
  k_Counts_init : PySem.W.keepIn K (.ref a.f_Counts_init) = true
  F_Counts_quarters : Fun K "quarters" "Counts.quarters" st_Counts_quarters a.f_Counts_quarters a.d_Counts_quarters
  bi_Counts_quarters : Binds K a.d_Counts_quarters ["self", "number"] []
  k_Counts_quarters : PySem.W.keepIn K (.ref a.f_Counts_quarters) = true
  me_Counts_quarters : Meth K a.C_Counts "quarters" a.f_Counts_quarters
  F_Counts_ends_of_quarters : Fun K "ends_of_quarters" "Counts.ends_of_quarters" st_Counts_ends_of_quarters a.f_Counts_ends_of_quarters a.d_Counts_ends_of_quarters
  bi_Counts_ends_of_quarters : Binds K a.d_Counts_ends_of_quarters ["self", "number", "size"] []
  k_Counts_ends_of_quarters : PySem.W.keepIn K (.ref a.f_Counts_ends_of_quarters) = true
  me_Counts_ends_of_quarters : Meth K a.C_Counts "ends_of_quarters" a.f_Counts_ends_of_quarters
  F_Counts_ends_in : Fun K "ends_in" "Counts.ends_in" st_Counts_ends_in a.f_Counts_ends_in a.d_Counts_ends_in
  bi_Counts_ends_in : Binds K a.d_Counts_ends_in ["self", "number", "size"] []
  k_Counts_ends_in : PySem.W.keepIn K (.ref a.f_Counts_ends_in) = true
  me_Counts_ends_in : Meth K a.C_Counts "ends_in" a.f_Counts_ends_in
  F_bounds : Fun K "bounds" "bounds" st_bounds a.f_bounds a.d_bounds
  bi_bounds : Binds K a.d_bounds ["shape"] []
  k_bounds : PySem.W.keepIn K (.ref a.f_bounds) = true
  m_bounds : mg "bounds" = some (.ref a.f_bounds)
  F_moves_of : Fun K "moves_of" "moves_of" st_moves_of a.f_moves_of a.d_moves_of
  bi_moves_of : Binds K a.d_moves_of ["shape"] []
  k_moves_of : PySem.W.keepIn K (.ref a.f_moves_of) = true
  m_moves_of : mg "moves_of" = some (.ref a.f_moves_of)
  F_leaves_behind : Fun K "leaves_behind" "leaves_behind" st_leaves_behind a.f_leaves_behind a.d_leaves_behind
  bi_leaves_behind : Binds K a.d_leaves_behind ["mixed", "down", "right"] []
  k_leaves_behind : PySem.W.keepIn K (.ref a.f_leaves_behind) = true
  m_leaves_behind : mg "leaves_behind" = some (.ref a.f_leaves_behind)
  F_fewest : Fun K "fewest" "fewest" st_fewest a.f_fewest a.d_fewest
  bi_fewest : Binds K a.d_fewest ["shape"] []
  k_fewest : PySem.W.keepIn K (.ref a.f_fewest) = true
  m_fewest : mg "fewest" = some (.ref a.f_fewest)
  F_law_number : Fun K "_law_number" "_law_number" st_law_number a.f_law_number a.d_law_number
  bi_law_number : Binds K a.d_law_number ["_law_cells_here", "_law_rows", "_law_known", "_law_box"] []
  k_law_number : PySem.W.keepIn K (.ref a.f_law_number) = true
  m_law_number : mg "_law_number" = some (.ref a.f_law_number)
  F_law_shape : Fun K "_law_shape" "_law_shape" st_law_shape a.f_law_shape a.d_law_shape
  bi_law_shape : Binds K a.d_law_shape ["_law_n", "_law_cells_here"] []
  k_law_shape : PySem.W.keepIn K (.ref a.f_law_shape) = true
  m_law_shape : mg "_law_shape" = some (.ref a.f_law_shape)
  F_law_right : Fun K "_law_right" "_law_right" st_law_right a.f_law_right a.d_law_right
  bi_law_right : Binds K a.d_law_right ["_law_n", "_law_cells_here"] []
  k_law_right : PySem.W.keepIn K (.ref a.f_law_right) = true
  m_law_right : mg "_law_right" = some (.ref a.f_law_right)
  F_law_boxed : Fun K "_law_boxed" "_law_boxed" st_law_boxed a.f_law_boxed a.d_law_boxed
  bi_law_boxed : Binds K a.d_law_boxed ["_law_boxes_here"] []
  k_law_boxed : PySem.W.keepIn K (.ref a.f_law_boxed) = true
  m_law_boxed : mg "_law_boxed" = some (.ref a.f_law_boxed)
  F_law_boxes : Fun K "_law_boxes" "_law_boxes" st_law_boxes a.f_law_boxes a.d_law_boxes
  bi_law_boxes : Binds K a.d_law_boxes ["_law_script", "_law_k", "_law_side", "_law_many"] []
  k_law_boxes : PySem.W.keepIn K (.ref a.f_law_boxes) = true
  m_law_boxes : mg "_law_boxes" = some (.ref a.f_law_boxes)
  F_law_squares : Fun K "_law_squares" "_law_squares" st_law_squares a.f_law_squares a.d_law_squares
  bi_law_squares : Binds K a.d_law_squares ["_law_script", "_law_k", "_law_n", "_law_many"] []
  k_law_squares : PySem.W.keepIn K (.ref a.f_law_squares) = true
  m_law_squares : mg "_law_squares" = some (.ref a.f_law_squares)
  F_law_cells : Fun K "_law_cells" "_law_cells" st_law_cells a.f_law_cells a.d_law_cells
  bi_law_cells : Binds K a.d_law_cells ["_law_script", "_law_k", "_law_n"] []
  k_law_cells : PySem.W.keepIn K (.ref a.f_law_cells) = true
  m_law_cells : mg "_law_cells" = some (.ref a.f_law_cells)
  F_law : Fun K "law" "law" st_law a.f_law a.d_law
  bi_law : Binds K a.d_law ["_law_script"] []
  k_law : PySem.W.keepIn K (.ref a.f_law) = true
  m_law : mg "law" = some (.ref a.f_law)
section
variable {P : Program} {w : World} {K : PySem.W.Frag} {mg : Str → Option Value} {base : Heap} {a : Ad}
theorem ok_law_at {k : Nat} {sp : DSp} (T : Txt K mg a) (len : ∀ ds G Q E, sp ds G Q E → ds.length = 2)
    (body : ∀ ds G Q E, sp ds G Q E → R_law_at { nx := fun _ G' => cl Q .non G', rt := cl Q } (startD 2 ds) G) : DFn P w K mg base CX0 (k + 1) a.f_law_at a.d_law_at ["_law_script", "_law_k"] sp :=
  fn_ok T.F_law_at sc_law_at (R := R_law_at) (fun cdv A outer s H E hr =>
    (dss_cons (ds_if (dt_cmp dlt (dv 1) (de_callB (cb_lenF) T.b_len bt_len (da_cons (dv 0) da_nil))) (dss_one (ds_ret (de_ixF (dv 0) (dv 1)))) dss_nil)
    (dss_one (ds_ret de_int)))) len body
theorem ok_law_mixed {k : Nat} {sp : DSp} (T : Txt K mg a) (len : ∀ ds G Q E, sp ds G Q E → ds.length = 2)
    (body : ∀ ds G Q E, sp ds G Q E → R_law_mixed { nx := fun _ G' => cl Q .non G', rt := cl Q } (startD 2 ds) G) : DFn P w K mg base CX0 (k + 1) a.f_law_mixed a.d_law_mixed ["_law_number_here", "_law_k"] sp :=
  fn_ok T.F_law_mixed sc_law_mixed (R := R_law_mixed) (fun cdv A outer s H E hr =>
    (dss_cons (ds_set 0 sc_law_mixed.nd (de_op dmod (de_op dadd (de_op dmod (dv 0) de_int) (de_op dmul de_int (de_op dadd (dv 1) de_int))) de_int))
    (dss_one (ds_ret (de_op dadd de_int (de_op dmod (de_op dadd (de_op dadd (de_op dmul (dv 0) (dv 0)) (de_op dmul de_int (dv 0))) (de_op dmul de_int (dv 1))) de_int)))))) len body
theorem ok_law_row {k k_law_at k_law_mixed : Nat} {sp : DSp} {s_law_at s_law_mixed : DSp} (T : Txt K mg a) (h_law_at : k_law_at ≤ k) (G_law_at : DFn P w K mg base CX0 k_law_at a.f_law_at a.d_law_at ["_law_script", "_law_k"] s_law_at) (h_law_mixed : k_law_mixed ≤ k) (G_law_mixed : DFn P w K mg base CX0 k_law_mixed a.f_law_mixed a.d_law_mixed ["_law_number_here", "_law_k"] s_law_mixed) (len : ∀ ds G Q E, sp ds G Q E → ds.length = 4)
    (body : ∀ ds G Q E, sp ds G Q E → R_law_row s_law_at s_law_mixed { nx := fun _ G' => cl Q .non G', rt := cl Q } (startD 7 ds) G) : DFn P w K mg base CX0 (k + 1) a.f_law_row a.d_law_row ["_law_script", "_law_k", "_law_many", "_law_base"] sp :=
  fn_ok T.F_law_row sc_law_row (R := R_law_row s_law_at s_law_mixed) (fun cdv A outer s H E hr =>
    (dss_cons (ds_set 4 sc_law_row.nd (de_op dsub (de_call G_law_at (hr.mono h_law_at) T.m_law_at T.k_law_at T.bi_law_at (da_cons (dv 0) (da_cons (dv 1) da_nil))) (de_op dpow de_int de_int)))
    (dss_cons (ds_set 5 sc_law_row.nd (de_lstM da_nil))
    (dss_cons (ds_for PassesOwn.never rfl (di_range1' T.b_range (da_cons (dv 2) da_nil)) (tg_nm 6 sc_law_row.nd)
    (dss_cons (ds_if (dt_cmp dlt (dv 4) de_int) (dss_one (ds_set 4 sc_law_row.nd (de_call G_law_mixed (hr.mono h_law_mixed) T.m_law_mixed T.k_law_mixed T.bi_law_mixed (da_cons (de_op dadd (de_call G_law_at (hr.mono h_law_at) T.m_law_at T.k_law_at T.bi_law_at (da_cons (dv 0) (da_cons (dv 1) da_nil))) (de_op dmul de_int (de_call G_law_at (hr.mono h_law_at) T.m_law_at T.k_law_at T.bi_law_at (da_cons (dv 0) (da_cons (de_op dadd (dv 1) (de_op dmod (dv 6) de_int)) da_nil))))) (da_cons (de_op dadd (de_op dmul de_int (dv 1)) (dv 6)) da_nil))))) dss_nil)
    (dss_cons (ds_expr (de_bm PySem.F.plainAttrs_list PySem.F.slot_list_append PySem.F.type_list_append dm_append' (dv 5) (da_cons (de_op dmod (dv 4) (dv 3)) da_nil)))
    (dss_one (ds_set 4 sc_law_row.nd (de_op dfdiv (dv 4) (dv 3)))))))
    (dss_one (ds_ret (dv 5))))))) len body
theorem ok_law_bounds {k : Nat} {sp : DSp} (T : Txt K mg a) (len : ∀ ds G Q E, sp ds G Q E → ds.length = 1)
    (body : ∀ ds G Q E, sp ds G Q E → R_law_bounds { nx := fun _ G' => cl Q .non G', rt := cl Q } (startD 5 ds) G) : DFn P w K mg base CX0 (k + 1) a.f_law_bounds a.d_law_bounds ["_law_cells_here"] sp :=
  fn_ok T.F_law_bounds sc_law_bounds (R := R_law_bounds) (fun cdv A outer s H E hr =>
    (dss_cons (ds_if (dt_cmp (deq hr.units) (dv 0) (de_lst da_nil)) (dss_one (ds_ret de_non)) dss_nil)
    (dss_cons (ds_setLc 1 (own := [("_law_row_here", 2), ("_law_column", 3)]) rfl sc_law_bounds.nd (sw_true rfl rfl rfl (by decide +kernel)) (di_seqF (dv 0)) (blkOk_by (N := N_law_bounds) (sc := defScope st_law_bounds) (by decide +kernel)) (fun _ _ _ _ _ => (tg_tp rfl (tgs_cons (tg_nm 2 sc_law_bounds.nd) (tgs_cons (tg_nm 3 sc_law_bounds.nd) tgs_nil)))) (fun _ _ _ _ _ => dts_nil) (fun _ _ _ _ _ => (dv 2)))
    (dss_cons (ds_setLc 4 (own := [("_law_row_here", 2), ("_law_column", 3)]) rfl sc_law_bounds.nd (sw_true rfl rfl rfl (by decide +kernel)) (di_seqF (dv 0)) (blkOk_by (N := N_law_bounds) (sc := defScope st_law_bounds) (by decide +kernel)) (fun _ _ _ _ _ => (tg_tp rfl (tgs_cons (tg_nm 2 sc_law_bounds.nd) (tgs_cons (tg_nm 3 sc_law_bounds.nd) tgs_nil)))) (fun _ _ _ _ _ => dts_nil) (fun _ _ _ _ _ => (dv 3)))
    (dss_one (ds_ret (de_tup (da_cons (de_callB (cb_min' rfl) T.b_min bt_min (da_cons (dv 1) da_nil)) (da_cons (de_callB (cb_min' rfl) T.b_min bt_min (da_cons (dv 4) da_nil)) (da_cons (de_callB (cb_max' rfl) T.b_max bt_max (da_cons (dv 1) da_nil)) (da_cons (de_callB (cb_max' rfl) T.b_max bt_max (da_cons (dv 4) da_nil)) da_nil))))))))))) len body
theorem ok_law_moves {k k_law_bounds : Nat} {sp : DSp} {s_law_bounds : DSp} (T : Txt K mg a) (h_law_bounds : k_law_bounds ≤ k) (G_law_bounds : DFn P w K mg base CX0 k_law_bounds a.f_law_bounds a.d_law_bounds ["_law_cells_here"] s_law_bounds) (len : ∀ ds G Q E, sp ds G Q E → ds.length = 2)
    (body : ∀ ds G Q E, sp ds G Q E → R_law_moves s_law_bounds { nx := fun _ G' => cl Q .non G', rt := cl Q } (startD 6 ds) G) : DFn P w K mg base CX0 (k + 1) a.f_law_moves a.d_law_moves ["_law_cells_here", "_law_side"] sp :=
  fn_ok T.F_law_moves sc_law_moves (R := R_law_moves s_law_bounds) (fun cdv A outer s H E hr =>
    (dss_cons (ds_set 2 sc_law_moves.nd (de_call G_law_bounds (hr.mono h_law_bounds) T.m_law_bounds T.k_law_bounds T.bi_law_bounds (da_cons (dv 0) da_nil)))
    (dss_cons (ds_if (dt_cmp disN (dv 2) de_non) (dss_one (ds_ret (de_lst (da_cons (de_tup (da_cons de_int (da_cons de_int da_nil))) da_nil)))) dss_nil)
    (dss_cons (ds_set 3 sc_law_moves.nd (de_lstM da_nil))
    (dss_cons (ds_for PassesOwn.never rfl (di_range2' T.b_range (da_cons (de_neg (de_ixF (dv 2) de_int)) (da_cons (de_op dsub (dv 1) (de_ixF (dv 2) de_int)) da_nil))) (tg_nm 4 sc_law_moves.nd)
    (dss_one (ds_expr (de_bm PySem.F.plainAttrs_list PySem.F.slot_list_extend PySem.F.type_list_extend dm_extend' (dv 3) (da_cons (de_fin (de_lcM (own := [("_law_right_here", 5)]) rfl sc_law_moves.nd (di_range2' T.b_range (da_cons (de_neg (de_ixF (dv 2) de_int)) (da_cons (de_op dsub (dv 1) (de_ixF (dv 2) de_int)) da_nil))) (blkOk_by (N := N_law_moves) (sc := defScope st_law_moves) (by decide +kernel)) (fun _ _ _ _ _ => (tg_nm 5 sc_law_moves.nd)) (fun _ _ _ _ _ => dts_nil) (fun _ _ _ _ _ => (de_tup (da_cons (dv 4) (da_cons (dv 5) da_nil)))))) da_nil)))))
    (dss_one (ds_ret (dv 3)))))))) len body
theorem ok_law_parted {k : Nat} {sp : DSp} (T : Txt K mg a) (len : ∀ ds G Q E, sp ds G Q E → ds.length = 2)
    (body : ∀ ds G Q E, sp ds G Q E → R_law_parted { nx := fun _ G' => cl Q .non G', rt := cl Q } (startD 8 ds) G) : DFn P w K mg base CX0 (k + 1) a.f_law_parted a.d_law_parted ["_law_cells_here", "_law_n"] sp :=
  fn_ok T.F_law_parted sc_law_parted (R := R_law_parted) (fun cdv A outer s H E hr =>
    (dss_cons (ds_set 2 sc_law_parted.nd (de_lstM da_nil))
    (dss_cons (ds_for PassesOwn.never rfl (di_range2' T.b_range (da_cons de_int (da_cons (de_op dadd (dv 1) de_int) da_nil))) (tg_nm 3 sc_law_parted.nd)
    (dss_cons (ds_set 4 sc_law_parted.nd de_dnewN)
    (dss_cons (ds_for PassesOwn.never rfl (di_seqF (dv 0)) (tg_tp rfl (tgs_cons (tg_nm 5 sc_law_parted.nd) (tgs_cons (tg_nm 6 sc_law_parted.nd) tgs_nil)))
    (dss_cons (ds_set 7 sc_law_parted.nd (de_tup (da_cons (de_op dshr (dv 5) (dv 3)) (da_cons (de_op dshr (dv 6) (dv 3)) da_nil))))
    (dss_one (ds_dputF hr.u16 (dv 4) (dv 7) (de_op dadd (de_dget2F hr.u16 (dv 4) (dv 7) de_int) de_int)))))
    (dss_one (ds_lock (ds_expr (de_bm PySem.F.plainAttrs_list PySem.F.slot_list_append PySem.F.type_list_append dm_append' (dv 2) (da_cons (de_callB (cb_lenF) T.b_len bt_len (da_cons (de_fin (de_lcM (own := [("_law_label", 7)]) rfl sc_law_parted.nd (di_keys (dv 4)) (blkOk_by (N := N_law_parted) (sc := defScope st_law_parted) (by decide +kernel)) (fun _ _ _ _ _ => (tg_nm 7 sc_law_parted.nd)) (fun _ _ _ _ _ => (dts_one (dt_cmp dlt (de_dget hr.u16 (dv 4) (dv 7)) (de_op dshl de_int (de_op dmul de_int (dv 3)))))) (fun _ _ _ _ _ => (dv 7)))) da_nil)) da_nil))))))))
    (dss_one (ds_ret (dv 2)))))) len body
theorem ok_law_moved {k : Nat} {sp : DSp} (T : Txt K mg a) (len : ∀ ds G Q E, sp ds G Q E → ds.length = 2)
    (body : ∀ ds G Q E, sp ds G Q E → R_law_moved { nx := fun _ G' => cl Q .non G', rt := cl Q } (startD 4 ds) G) : DFn P w K mg base CX0 (k + 1) a.f_law_moved a.d_law_moved ["_law_cells_here", "_law_move"] sp :=
  fn_ok T.F_law_moved sc_law_moved (R := R_law_moved) (fun cdv A outer s H E hr =>
    (dss_one (ds_ret (de_fin (de_lcM (own := [("_law_row_here", 2), ("_law_column", 3)]) rfl sc_law_moved.nd (di_seqF (dv 0)) (blkOk_by (N := N_law_moved) (sc := defScope st_law_moved) (by decide +kernel)) (fun _ _ _ _ _ => (tg_tp rfl (tgs_cons (tg_nm 2 sc_law_moved.nd) (tgs_cons (tg_nm 3 sc_law_moved.nd) tgs_nil)))) (fun _ _ _ _ _ => dts_nil) (fun _ _ _ _ _ => (de_tup (da_cons (de_op dadd (dv 2) (de_ixF (dv 1) de_int)) (da_cons (de_op dadd (dv 3) (de_ixF (dv 1) de_int)) da_nil))))))))) len body
theorem ok_is_whole {k : Nat} {sp : DSp} (T : Txt K mg a) (len : ∀ ds G Q E, sp ds G Q E → ds.length = 1)
    (body : ∀ ds G Q E, sp ds G Q E → R_is_whole { nx := fun _ G' => cl Q .non G', rt := cl Q } (startD 1 ds) G) : DFn P w K mg base CX0 (k + 1) a.f_is_whole a.d_is_whole ["thing"] sp :=
  fn_ok T.F_is_whole sc_is_whole (R := R_is_whole) (fun cdv A outer s H E hr =>
    (dss_one (ds_ret (de_and (de_callB (cb_isi) T.b_isinstance bt_isinstance (da_cons (dv 0) (da_cons (de_ty T.b_int bt_int) da_nil))) (de_one (de_not (de_callB (cb_isi) T.b_isinstance bt_isinstance (da_cons (dv 0) (da_cons (de_ty T.b_bool bt_bool) da_nil))))))))) len body
theorem ok_is_size {k k_is_whole : Nat} {sp : DSp} {s_is_whole : DSp} (T : Txt K mg a) (h_is_whole : k_is_whole ≤ k) (G_is_whole : DFn P w K mg base CX0 k_is_whole a.f_is_whole a.d_is_whole ["thing"] s_is_whole) (len : ∀ ds G Q E, sp ds G Q E → ds.length = 1)
    (body : ∀ ds G Q E, sp ds G Q E → R_is_size s_is_whole { nx := fun _ G' => cl Q .non G', rt := cl Q } (startD 1 ds) G) : DFn P w K mg base CX0 (k + 1) a.f_is_size a.d_is_size ["thing"] sp :=
  fn_ok T.F_is_size sc_is_size (R := R_is_size s_is_whole) (fun cdv A outer s H E hr =>
    (dss_one (ds_ret (de_and (de_call G_is_whole (hr.mono h_is_whole) T.m_is_whole T.k_is_whole T.bi_is_whole (da_cons (dv 0) da_nil)) (de_one (de_chain dle dle de_int (dv 0) (de_globI T.g_MOST_SIZE))))))) len body
theorem ok_is_number {k k_is_whole : Nat} {sp : DSp} {s_is_whole : DSp} (T : Txt K mg a) (h_is_whole : k_is_whole ≤ k) (G_is_whole : DFn P w K mg base CX0 k_is_whole a.f_is_whole a.d_is_whole ["thing"] s_is_whole) (len : ∀ ds G Q E, sp ds G Q E → ds.length = 2)
    (body : ∀ ds G Q E, sp ds G Q E → R_is_number s_is_whole { nx := fun _ G' => cl Q .non G', rt := cl Q } (startD 2 ds) G) : DFn P w K mg base CX0 (k + 1) a.f_is_number a.d_is_number ["thing", "most"] sp :=
  fn_ok T.F_is_number sc_is_number (R := R_is_number s_is_whole) (fun cdv A outer s H E hr =>
    (dss_one (ds_ret (de_and (de_call G_is_whole (hr.mono h_is_whole) T.m_is_whole T.k_is_whole T.bi_is_whole (da_cons (dv 0) da_nil)) (de_one (de_chain dle dlt de_int (dv 0) (dv 1))))))) len body
theorem ok_is_row {k k_is_number : Nat} {sp : DSp} {s_is_number : DSp} (T : Txt K mg a) (h_is_number : k_is_number ≤ k) (G_is_number : DFn P w K mg base CX0 k_is_number a.f_is_number a.d_is_number ["thing", "most"] s_is_number) (len : ∀ ds G Q E, sp ds G Q E → ds.length = 2)
    (body : ∀ ds G Q E, sp ds G Q E → R_is_row s_is_number { nx := fun _ G' => cl Q .non G', rt := cl Q } (startD 3 ds) G) : DFn P w K mg base CX0 (k + 1) a.f_is_row a.d_is_row ["thing", "place"] sp :=
  fn_ok T.F_is_row sc_is_row (R := R_is_row s_is_number) (fun cdv A outer s H E hr =>
    (dss_one (ds_ret (de_and (de_callB (cb_isi) T.b_isinstance bt_isinstance (da_cons (dv 0) (da_cons (de_ty T.b_tuple bt_tuple) da_nil))) (de_and (de_cmp deqSF (de_callB (cb_lenF) T.b_len bt_len (da_cons (dv 0) da_nil)) de_int) (de_one (de_callB (cb_all' rfl) T.b_all bt_all (da_cons (de_fin (de_lcM (own := [("one", 2)]) rfl sc_is_row.nd (di_seqF (dv 0)) (blkOk_by (N := N_is_row) (sc := defScope st_is_row) (by decide +kernel)) (fun _ _ _ _ _ => (tg_nm 2 sc_is_row.nd)) (fun _ _ _ _ _ => dts_nil) (fun _ _ _ _ _ => (de_call G_is_number (hr.mono h_is_number) T.m_is_number T.k_is_number T.bi_is_number (da_cons (dv 2) (da_cons (de_op dadd (dv 1) de_int) da_nil)))))) da_nil)))))))) len body
theorem ok_depths_of {k : Nat} {sp : DSp} (T : Txt K mg a) (len : ∀ ds G Q E, sp ds G Q E → ds.length = 1)
    (body : ∀ ds G Q E, sp ds G Q E → R_depths_of { nx := fun _ G' => cl Q .non G', rt := cl Q } (startD 4 ds) G) : DFn P w K mg base CX0 (k + 1) a.f_depths_of a.d_depths_of ["rows"] sp :=
  fn_ok T.F_depths_of sc_depths_of (R := R_depths_of) (fun cdv A outer s H E hr =>
    (dss_cons (ds_set 1 sc_depths_of.nd (de_lstM (da_cons de_int (da_cons de_int da_nil))))
    (dss_cons (ds_for PassesOwn.never rfl (di_seqF (dv 0)) (tg_nm 2 sc_depths_of.nd)
    (dss_one (ds_expr (de_bm PySem.F.plainAttrs_list PySem.F.slot_list_append PySem.F.type_list_append dm_append' (dv 1) (da_cons (de_op dadd de_int (de_callB (cb_max' rfl) T.b_max bt_max (da_cons (de_fin (de_lcM (own := [("number", 3)]) rfl sc_depths_of.nd (di_seqF (dv 2)) (blkOk_by (N := N_depths_of) (sc := defScope st_depths_of) (by decide +kernel)) (fun _ _ _ _ _ => (tg_nm 3 sc_depths_of.nd)) (fun _ _ _ _ _ => dts_nil) (fun _ _ _ _ _ => (de_ixF (dv 1) (dv 3))))) da_nil))) da_nil)))))
    (dss_one (ds_ret (dv 1)))))) len body
theorem ok_is_telling {k k_is_size k_is_row k_is_number k_depths_of : Nat} {sp : DSp} {s_is_size s_is_row s_is_number s_depths_of : DSp} (T : Txt K mg a) (h_is_size : k_is_size ≤ k) (G_is_size : DFn P w K mg base CX0 k_is_size a.f_is_size a.d_is_size ["thing"] s_is_size) (h_is_row : k_is_row ≤ k) (G_is_row : DFn P w K mg base CX0 k_is_row a.f_is_row a.d_is_row ["thing", "place"] s_is_row) (h_is_number : k_is_number ≤ k) (G_is_number : DFn P w K mg base CX0 k_is_number a.f_is_number a.d_is_number ["thing", "most"] s_is_number) (h_depths_of : k_depths_of ≤ k) (G_depths_of : DFn P w K mg base CX0 k_depths_of a.f_depths_of a.d_depths_of ["rows"] s_depths_of) (len : ∀ ds G Q E, sp ds G Q E → ds.length = 1)
    (body : ∀ ds G Q E, sp ds G Q E → R_is_telling s_is_size s_is_row s_is_number s_depths_of { nx := fun _ G' => cl Q .non G', rt := cl Q } (startD 6 ds) G) : DFn P w K mg base CX0 (k + 1) a.f_is_telling a.d_is_telling ["thing"] sp :=
  fn_ok T.F_is_telling sc_is_telling (R := R_is_telling s_is_size s_is_row s_is_number s_depths_of) (fun cdv A outer s H E hr =>
    (dss_cons (ds_if (DW.pt (dw_or (dt_not (dt_val (de_callB (cb_isi) T.b_isinstance bt_isinstance (da_cons (dv 0) (da_cons (de_ty T.b_tuple bt_tuple) da_nil))))) (dw_or (dt_cmp dneSF (de_callB (cb_lenF) T.b_len bt_len (da_cons (dv 0) da_nil)) de_int) (dw_or (dt_not (dt_val (de_call G_is_size (hr.mono h_is_size) T.m_is_size T.k_is_size T.bi_is_size (da_cons (de_ixF (dv 0) de_int) da_nil)))) (dw_or1 (dt_not (dt_val (de_callB (cb_isi) T.b_isinstance bt_isinstance (da_cons (de_ixF (dv 0) de_int) (da_cons (de_ty T.b_tuple bt_tuple) da_nil)))))))))) (dss_one (ds_ret de_bl)) dss_nil)
    (dss_cons (ds_asg (dv 0) (tg_tp rfl (tgs_cons (tg_nm 1 sc_is_telling.nd) (tgs_cons (tg_nm 2 sc_is_telling.nd) (tgs_cons (tg_nm 3 sc_is_telling.nd) tgs_nil)))))
    (dss_cons (ds_if (DW.pt (dw_or (dt_not (dt_val (de_callB (cb_all' rfl) T.b_all bt_all (da_cons (de_fin (de_lcM (own := [("place", 4), ("row", 5)]) rfl sc_is_telling.nd (di_enumF T.b_enumerate (da_cons (dv 3) da_nil)) (blkOk_by (N := N_is_telling) (sc := defScope st_is_telling) (by decide +kernel)) (fun _ _ _ _ _ => (tg_tp rfl (tgs_cons (tg_nm 4 sc_is_telling.nd) (tgs_cons (tg_nm 5 sc_is_telling.nd) tgs_nil)))) (fun _ _ _ _ _ => dts_nil) (fun _ _ _ _ _ => (de_call G_is_row (hr.mono h_is_row) T.m_is_row T.k_is_row T.bi_is_row (da_cons (dv 5) (da_cons (dv 4) da_nil)))))) da_nil)))) (dw_or1 (dt_not (dt_val (de_call G_is_number (hr.mono h_is_number) T.m_is_number T.k_is_number T.bi_is_number (da_cons (dv 2) (da_cons (de_op dadd (de_callB (cb_lenF) T.b_len bt_len (da_cons (dv 3) da_nil)) de_int) da_nil)))))))) (dss_one (ds_ret de_bl)) dss_nil)
    (dss_one (ds_ret (de_cmp dle (de_ixF (de_call G_depths_of (hr.mono h_depths_of) T.m_depths_of T.k_depths_of T.bi_depths_of (da_cons (dv 3) da_nil)) (dv 2)) (dv 1)))))))) len body
theorem ok_Rows_init {k : Nat} {sp : DSp} (T : Txt K mg a) (len : ∀ ds G Q E, sp ds G Q E → ds.length = 1)
    (body : ∀ ds G Q E, sp ds G Q E → R_Rows_init a.C_Rows { nx := fun _ G' => cl Q .non G', rt := cl Q } (startD 1 ds) G) : DFn P w K mg base CX0 (k + 1) a.f_Rows_init a.d_Rows_init ["self"] sp :=
  fn_ok T.F_Rows_init sc_Rows_init (R := R_Rows_init a.C_Rows) (fun cdv A outer s H E hr =>
    (dss_cons (ds_fld T.c_Rows T.n_Rows_rows (dv 0) (de_lstM da_nil))
    (dss_one (ds_fld T.c_Rows T.n_Rows_numbers (dv 0) de_dnewN)))) len body
theorem ok_Rows_number {k : Nat} {sp : DSp} (T : Txt K mg a) (len : ∀ ds G Q E, sp ds G Q E → ds.length = 2)
    (body : ∀ ds G Q E, sp ds G Q E → R_Rows_number a.C_Rows { nx := fun _ G' => cl Q .non G', rt := cl Q } (startD 2 ds) G) : DFn P w K mg base CX0 (k + 1) a.f_Rows_number a.d_Rows_number ["self", "quarters"] sp :=
  fn_ok T.F_Rows_number sc_Rows_number (R := R_Rows_number a.C_Rows) (fun cdv A outer s H E hr =>
    (dss_cons (ds_if (dt_cmp (dS_in hr.u65) (dv 1) (de_tup (da_cons (de_tup (da_cons de_int (da_cons de_int (da_cons de_int (da_cons de_int da_nil))))) (da_cons (de_tup (da_cons de_int (da_cons de_int (da_cons de_int (da_cons de_int da_nil))))) da_nil)))) (dss_one (ds_ret (de_ixF (dv 1) de_int))) dss_nil)
    (dss_cons (ds_if (dt_cmp (dD_notin hr.u16) (dv 1) (de_fld T.c_Rows T.n_Rows_numbers (dv 0))) (dss_cons (ds_expr (de_bm PySem.F.plainAttrs_list PySem.F.slot_list_append PySem.F.type_list_append dm_append' (de_fld T.c_Rows T.n_Rows_rows (dv 0)) (da_cons (dv 1) da_nil)))
    (dss_one (ds_dputF hr.u16 (de_fld T.c_Rows T.n_Rows_numbers (dv 0)) (dv 1) (de_op dadd (de_callB (cb_lenF) T.b_len bt_len (da_cons (de_fld T.c_Rows T.n_Rows_rows (dv 0)) da_nil)) de_int)))) dss_nil)
    (dss_one (ds_ret (de_dget hr.u16 (de_fld T.c_Rows T.n_Rows_numbers (dv 0)) (dv 1))))))) len body
theorem ok_Rows_take {k k_Rows_number : Nat} {sp : DSp} {s_Rows_number : DSp} (T : Txt K mg a) (h_Rows_number : k_Rows_number ≤ k) (G_Rows_number : DFn P w K mg base CX0 k_Rows_number a.f_Rows_number a.d_Rows_number ["self", "quarters"] s_Rows_number) (len : ∀ ds G Q E, sp ds G Q E → ds.length = 2)
    (body : ∀ ds G Q E, sp ds G Q E → R_Rows_take a.C_Rows s_Rows_number { nx := fun _ G' => cl Q .non G', rt := cl Q } (startD 8 ds) G) : DFn P w K mg base CX0 (k + 1) a.f_Rows_take a.d_Rows_take ["self", "telling"] sp :=
  fn_ok T.F_Rows_take sc_Rows_take (R := R_Rows_take a.C_Rows s_Rows_number) (fun cdv A outer s H E hr =>
    (dss_cons (ds_asg (dv 1) (tg_tp rfl (tgs_cons (tg_nm 2 sc_Rows_take.nd) (tgs_cons (tg_nm 3 sc_Rows_take.nd) (tgs_cons (tg_nm 4 sc_Rows_take.nd) tgs_nil)))))
    (dss_cons (ds_set 5 sc_Rows_take.nd (de_lstM (da_cons de_int (da_cons de_int da_nil))))
    (dss_cons (ds_for PassesOwn.never rfl (di_seqF (dv 4)) (tg_nm 6 sc_Rows_take.nd)
    (dss_one (ds_expr (de_bm PySem.F.plainAttrs_list PySem.F.slot_list_append PySem.F.type_list_append dm_append' (dv 5) (da_cons (de_meth T.c_Rows T.me_Rows_number G_Rows_number (hr.mono h_Rows_number) T.bi_Rows_number (dv 0) (da_cons (de_callTy (cb_tupleF) T.b_tuple bt_tuple (da_cons (de_fin (de_lcM (own := [("number", 7)]) rfl sc_Rows_take.nd (di_seqF (dv 6)) (blkOk_by (N := N_Rows_take) (sc := defScope st_Rows_take) (by decide +kernel)) (fun _ _ _ _ _ => (tg_nm 7 sc_Rows_take.nd)) (fun _ _ _ _ _ => dts_nil) (fun _ _ _ _ _ => (de_ixF (dv 5) (dv 7))))) da_nil)) da_nil)) da_nil)))))
    (dss_one (ds_ret (de_ixF (dv 5) (dv 3)))))))) len body
theorem ok_Rows_quarters {k : Nat} {sp : DSp} (T : Txt K mg a) (len : ∀ ds G Q E, sp ds G Q E → ds.length = 2)
    (body : ∀ ds G Q E, sp ds G Q E → R_Rows_quarters a.C_Rows { nx := fun _ G' => cl Q .non G', rt := cl Q } (startD 2 ds) G) : DFn P w K mg base CX0 (k + 1) a.f_Rows_quarters a.d_Rows_quarters ["self", "number"] sp :=
  fn_ok T.F_Rows_quarters sc_Rows_quarters (R := R_Rows_quarters a.C_Rows) (fun cdv A outer s H E hr =>
    (dss_cons (ds_if (dt_cmp dlt (dv 1) de_int) (dss_one (ds_ret (de_tup (da_cons (dv 1) (da_cons (dv 1) (da_cons (dv 1) (da_cons (dv 1) da_nil))))))) dss_nil)
    (dss_one (ds_ret (de_ixF (de_fld T.c_Rows T.n_Rows_rows (dv 0)) (de_op dsub (dv 1) de_int)))))) len body
theorem ok_Rows_order {k k_Rows_quarters k_Rows_order : Nat} {sp : DSp} {s_Rows_quarters s_Rows_order : DSp} (T : Txt K mg a) (h_Rows_quarters : k_Rows_quarters ≤ k) (G_Rows_quarters : DFn P w K mg base CX0 k_Rows_quarters a.f_Rows_quarters a.d_Rows_quarters ["self", "number"] s_Rows_quarters) (h_Rows_order : k_Rows_order ≤ k) (G_Rows_order : DFn P w K mg base CX0 k_Rows_order a.f_Rows_order a.d_Rows_order ["self", "number", "found"] s_Rows_order) (len : ∀ ds G Q E, sp ds G Q E → ds.length = 3)
    (body : ∀ ds G Q E, sp ds G Q E → R_Rows_order a.C_Rows s_Rows_quarters s_Rows_order { nx := fun _ G' => cl Q .non G', rt := cl Q } (startD 4 ds) G) : DFn P w K mg base CX0 (k + 1) a.f_Rows_order a.d_Rows_order ["self", "number", "found"] sp :=
  fn_ok T.F_Rows_order sc_Rows_order (R := R_Rows_order a.C_Rows s_Rows_quarters s_Rows_order) (fun cdv A outer s H E hr =>
    (dss_one (ds_if (DW.pt (dw_and (dt_cmp dgt (dv 1) de_int) (dw_and1 (dt_cmp (dD_notin hr.u16) (dv 1) (dv 2))))) (dss_cons (ds_for PassesOwn.never rfl (di_seqF (de_meth T.c_Rows T.me_Rows_quarters G_Rows_quarters (hr.mono h_Rows_quarters) T.bi_Rows_quarters (dv 0) (da_cons (dv 1) da_nil))) (tg_nm 3 sc_Rows_order.nd)
    (dss_one (ds_expr (de_meth T.c_Rows T.me_Rows_order G_Rows_order (hr.mono h_Rows_order) T.bi_Rows_order (dv 0) (da_cons (dv 3) (da_cons (dv 2) da_nil))))))
    (dss_one (ds_dputF hr.u16 (dv 2) (dv 1) (de_op dadd (de_callB (cb_lenF) T.b_len bt_len (da_cons (dv 2) da_nil)) de_int)))) dss_nil))) len body
theorem ok_Rows_shape {k k_Rows_order k_Rows_quarters : Nat} {sp : DSp} {s_Rows_order s_Rows_quarters : DSp} (T : Txt K mg a) (h_Rows_order : k_Rows_order ≤ k) (G_Rows_order : DFn P w K mg base CX0 k_Rows_order a.f_Rows_order a.d_Rows_order ["self", "number", "found"] s_Rows_order) (h_Rows_quarters : k_Rows_quarters ≤ k) (G_Rows_quarters : DFn P w K mg base CX0 k_Rows_quarters a.f_Rows_quarters a.d_Rows_quarters ["self", "number"] s_Rows_quarters) (len : ∀ ds G Q E, sp ds G Q E → ds.length = 3)
    (body : ∀ ds G Q E, sp ds G Q E → R_Rows_shape a.C_Rows s_Rows_order s_Rows_quarters { nx := fun _ G' => cl Q .non G', rt := cl Q } (startD 7 ds) G) : DFn P w K mg base CX0 (k + 1) a.f_Rows_shape a.d_Rows_shape ["self", "n", "top"] sp :=
  fn_ok T.F_Rows_shape sc_Rows_shape (R := R_Rows_shape a.C_Rows s_Rows_order s_Rows_quarters) (fun cdv A outer s H E hr =>
    (dss_cons (ds_set 3 sc_Rows_shape.nd de_dnewK)
    (dss_cons (ds_expr (de_meth T.c_Rows T.me_Rows_order G_Rows_order (hr.mono h_Rows_order) T.bi_Rows_order (dv 0) (da_cons (dv 2) (da_cons (dv 3) da_nil))))
    (dss_cons (ds_dputF hr.u16 (dv 3) de_int de_int)
    (dss_cons (ds_dputF hr.u16 (dv 3) de_int de_int)
    (dss_cons (ds_set 4 sc_Rows_shape.nd (de_lstM da_nil))
    (dss_cons (ds_lock (ds_for PassesOwn.never rfl (di_keys (dv 3)) (tg_nm 5 sc_Rows_shape.nd)
    (dss_one (ds_if (dt_cmp dgt (dv 5) de_int) (dss_one (ds_expr (de_bm PySem.F.plainAttrs_list PySem.F.slot_list_append PySem.F.type_list_append dm_append' (dv 4) (da_cons (de_callTy (cb_tupleF) T.b_tuple bt_tuple (da_cons (de_fin (de_lcM (own := [("quarter", 6)]) rfl sc_Rows_shape.nd (di_seqF (de_meth T.c_Rows T.me_Rows_quarters G_Rows_quarters (hr.mono h_Rows_quarters) T.bi_Rows_quarters (dv 0) (da_cons (dv 5) da_nil))) (blkOk_by (N := N_Rows_shape) (sc := defScope st_Rows_shape) (by decide +kernel)) (fun _ _ _ _ _ => (tg_nm 6 sc_Rows_shape.nd)) (fun _ _ _ _ _ => dts_nil) (fun _ _ _ _ _ => (de_dget hr.u16 (dv 3) (dv 6))))) da_nil)) da_nil)))) dss_nil))))
    (dss_one (ds_ret (de_tup (da_cons (dv 1) (da_cons (de_dget hr.u16 (dv 3) (dv 2)) (da_cons (de_callTy (cb_tupleF) T.b_tuple bt_tuple (da_cons (dv 4) da_nil)) da_nil))))))))))))) len body
theorem ok_one_of {k k_Rows_init k_Rows_take k_Rows_shape : Nat} {sp : DSp} {s_Rows_init s_Rows_take s_Rows_shape : DSp} (T : Txt K mg a) (h_Rows_init : k_Rows_init + 1 ≤ k) (G_Rows_init : DFn P w K mg base CX0 k_Rows_init a.f_Rows_init a.d_Rows_init ["self"] s_Rows_init) (h_Rows_take : k_Rows_take ≤ k) (G_Rows_take : DFn P w K mg base CX0 k_Rows_take a.f_Rows_take a.d_Rows_take ["self", "telling"] s_Rows_take) (h_Rows_shape : k_Rows_shape ≤ k) (G_Rows_shape : DFn P w K mg base CX0 k_Rows_shape a.f_Rows_shape a.d_Rows_shape ["self", "n", "top"] s_Rows_shape) (len : ∀ ds G Q E, sp ds G Q E → ds.length = 1)
    (body : ∀ ds G Q E, sp ds G Q E → R_one_of a.C_Rows s_Rows_init s_Rows_take s_Rows_shape { nx := fun _ G' => cl Q .non G', rt := cl Q } (startD 3 ds) G) : DFn P w K mg base CX0 (k + 1) a.f_one_of a.d_one_of ["telling"] sp :=
  fn_ok T.F_one_of sc_one_of (R := R_one_of a.C_Rows s_Rows_init s_Rows_take s_Rows_shape) (fun cdv A outer s H E hr =>
    (dss_cons (ds_set 1 sc_one_of.nd (de_make0 T.mk_Rows G_Rows_init (hr.mono h_Rows_init) T.mc_Rows T.bi_Rows_init))
    (dss_cons (ds_set 2 sc_one_of.nd (de_meth T.c_Rows T.me_Rows_take G_Rows_take (hr.mono h_Rows_take) T.bi_Rows_take (dv 1) (da_cons (dv 0) da_nil)))
    (dss_one (ds_ret (de_meth T.c_Rows T.me_Rows_shape G_Rows_shape (hr.mono h_Rows_shape) T.bi_Rows_shape (dv 1) (da_cons (de_ixF (dv 0) de_int) (da_cons (dv 2) da_nil)))))))) len body
theorem ok_is_shape {k k_is_telling k_one_of : Nat} {sp : DSp} {s_is_telling s_one_of : DSp} (T : Txt K mg a) (h_is_telling : k_is_telling ≤ k) (G_is_telling : DFn P w K mg base CX0 k_is_telling a.f_is_telling a.d_is_telling ["thing"] s_is_telling) (h_one_of : k_one_of ≤ k) (G_one_of : DFn P w K mg base CX0 k_one_of a.f_one_of a.d_one_of ["telling"] s_one_of) (len : ∀ ds G Q E, sp ds G Q E → ds.length = 1)
    (body : ∀ ds G Q E, sp ds G Q E → R_is_shape s_is_telling s_one_of { nx := fun _ G' => cl Q .non G', rt := cl Q } (startD 1 ds) G) : DFn P w K mg base CX0 (k + 1) a.f_is_shape a.d_is_shape ["thing"] sp :=
  fn_ok T.F_is_shape sc_is_shape (R := R_is_shape s_is_telling s_one_of) (fun cdv A outer s H E hr =>
    (dss_one (ds_ret (de_and (de_call G_is_telling (hr.mono h_is_telling) T.m_is_telling T.k_is_telling T.bi_is_telling (da_cons (dv 0) da_nil)) (de_one (de_cmp (deq hr.units) (de_call G_one_of (hr.mono h_one_of) T.m_one_of T.k_one_of T.bi_one_of (da_cons (dv 0) da_nil)) (dv 0))))))) len body
theorem ok_want_shape {k k_is_shape : Nat} {sp : DSp} {s_is_shape : DSp} (T : Txt K mg a) (h_is_shape : k_is_shape ≤ k) (G_is_shape : DFn P w K mg base CX0 k_is_shape a.f_is_shape a.d_is_shape ["thing"] s_is_shape) (len : ∀ ds G Q E, sp ds G Q E → ds.length = 1)
    (body : ∀ ds G Q E, sp ds G Q E → R_want_shape s_is_shape { nx := fun _ G' => cl Q .non G', rt := cl Q } (startD 1 ds) G) : DFn P w K mg base CX0 (k + 1) a.f_want_shape a.d_want_shape ["thing"] sp :=
  fn_ok T.F_want_shape sc_want_shape (R := R_want_shape s_is_shape) (fun cdv A outer s H E hr =>
    (dss_one (ds_if (dt_not (dt_val (de_call G_is_shape (hr.mono h_is_shape) T.m_is_shape T.k_is_shape T.bi_is_shape (da_cons (dv 0) da_nil)))) (dss_one ds_never) dss_nil))) len body
theorem ok_paint {k k_paint : Nat} {sp : DSp} {s_paint : DSp} (T : Txt K mg a) (h_paint : k_paint ≤ k) (G_paint : DFn P w K mg base CX0 k_paint a.f_paint a.d_paint ["rows", "number", "box", "looks"] s_paint) (len : ∀ ds G Q E, sp ds G Q E → ds.length = 4)
    (body : ∀ ds G Q E, sp ds G Q E → R_paint s_paint { nx := fun _ G' => cl Q .non G', rt := cl Q } (startD 11 ds) G) : DFn P w K mg base CX0 (k + 1) a.f_paint a.d_paint ["rows", "number", "box", "looks"] sp :=
  fn_ok T.F_paint sc_paint (R := R_paint s_paint) (fun cdv A outer s H E hr =>
    (dss_cons (ds_asg (dv 2) (tg_tp rfl (tgs_cons (tg_nm 4 sc_paint.nd) (tgs_cons (tg_nm 5 sc_paint.nd) (tgs_cons (tg_nm 6 sc_paint.nd) tgs_nil)))))
    (dss_cons (ds_if (dt_cmp deqSF (dv 1) de_int) (dss_one (ds_for PassesOwn.never rfl (di_range2' T.b_range (da_cons (dv 4) (da_cons (de_op dadd (dv 4) (dv 6)) da_nil))) (tg_nm 7 sc_paint.nd)
    (dss_one (ds_slset (de_ixF (dv 3) (dv 7)) (dv 5) (de_op dadd (dv 5) (dv 6)) (de_op drep' (de_lst (da_cons de_int da_nil)) (dv 6)))))) dss_nil)
    (dss_one (ds_if (dt_cmp dgt (dv 1) de_int) (dss_cons (ds_set 8 sc_paint.nd (de_op dfdiv (dv 6) de_int))
    (dss_one (ds_for PassesOwn.never rfl (di_enumF T.b_enumerate (da_cons (de_ixF (dv 0) (de_op dsub (dv 1) de_int)) da_nil)) (tg_tp rfl (tgs_cons (tg_nm 9 sc_paint.nd) (tgs_cons (tg_nm 10 sc_paint.nd) tgs_nil)))
    (dss_one (ds_expr (de_call G_paint (hr.mono h_paint) T.m_paint T.k_paint T.bi_paint (da_cons (dv 0) (da_cons (dv 10) (da_cons (de_tup (da_cons (de_op dadd (dv 4) (de_op dmul (dv 8) (de_op dfdiv (dv 9) de_int))) (da_cons (de_op dadd (dv 5) (de_op dmul (dv 8) (de_op dmod (dv 9) de_int))) (da_cons (dv 8) da_nil)))) (da_cons (dv 3) da_nil)))))))))) dss_nil))))) len body
theorem ok_Windows_init {k : Nat} {sp : DSp} (T : Txt K mg a) (len : ∀ ds G Q E, sp ds G Q E → ds.length = 3)
    (body : ∀ ds G Q E, sp ds G Q E → R_Windows_init a.C_Windows { nx := fun _ G' => cl Q .non G', rt := cl Q } (startD 3 ds) G) : DFn P w K mg base CX0 (k + 1) a.f_Windows_init a.d_Windows_init ["self", "size", "looks"] sp :=
  fn_ok T.F_Windows_init sc_Windows_init (R := R_Windows_init a.C_Windows) (fun cdv A outer s H E hr =>
    (dss_cons (ds_fld T.c_Windows T.n_Windows_size (dv 0) (dv 1))
    (dss_one (ds_fld T.c_Windows T.n_Windows_looks (dv 0) (dv 2))))) len body
theorem ok_cell_windows {k k_paint k_Windows_init : Nat} {sp : DSp} {s_paint s_Windows_init : DSp} (T : Txt K mg a) (h_paint : k_paint ≤ k) (G_paint : DFn P w K mg base CX0 k_paint a.f_paint a.d_paint ["rows", "number", "box", "looks"] s_paint) (h_Windows_init : k_Windows_init + 1 ≤ k) (G_Windows_init : DFn P w K mg base CX0 k_Windows_init a.f_Windows_init a.d_Windows_init ["self", "size", "looks"] s_Windows_init) (len : ∀ ds G Q E, sp ds G Q E → ds.length = 1)
    (body : ∀ ds G Q E, sp ds G Q E → R_cell_windows a.C_Windows s_paint s_Windows_init { nx := fun _ G' => cl Q .non G', rt := cl Q } (startD 4 ds) G) : DFn P w K mg base CX0 (k + 1) a.f_cell_windows a.d_cell_windows ["shape"] sp :=
  fn_ok T.F_cell_windows sc_cell_windows (R := R_cell_windows a.C_Windows s_paint s_Windows_init) (fun cdv A outer s H E hr =>
    (dss_cons (ds_set 1 sc_cell_windows.nd (de_op dshl de_int (de_ixF (dv 0) de_int)))
    (dss_cons (ds_setLcM 2 (own := [("row", 3)]) rfl sc_cell_windows.nd (sw_true rfl rfl rfl (by decide +kernel)) (di_range1' T.b_range (da_cons (dv 1) da_nil)) (blkOk_by (N := N_cell_windows) (sc := defScope st_cell_windows) (by decide +kernel)) (fun _ _ _ _ _ => (tg_nm 3 sc_cell_windows.nd)) (fun _ _ _ _ _ => dts_nil) (fun _ _ _ _ _ => (de_op drepM (de_lst (da_cons de_int da_nil)) (dv 1))))
    (dss_cons (ds_expr (de_call G_paint (hr.mono h_paint) T.m_paint T.k_paint T.bi_paint (da_cons (de_ixF (dv 0) de_int) (da_cons (de_ixF (dv 0) de_int) (da_cons (de_tup (da_cons de_int (da_cons de_int (da_cons (dv 1) da_nil)))) (da_cons (dv 2) da_nil))))))
    (dss_one (ds_ret (de_make T.mk_Windows G_Windows_init (hr.mono h_Windows_init) T.mc_Windows T.bi_Windows_init (da_cons de_int (da_cons (dv 2) da_nil))))))))) len body
theorem ok_one_look {k : Nat} {sp : DSp} (T : Txt K mg a) (len : ∀ ds G Q E, sp ds G Q E → ds.length = 1)
    (body : ∀ ds G Q E, sp ds G Q E → R_one_look { nx := fun _ G' => cl Q .non G', rt := cl Q } (startD 1 ds) G) : DFn P w K mg base CX0 (k + 1) a.f_one_look a.d_one_look ["some"] sp :=
  fn_ok T.F_one_look sc_one_look (R := R_one_look) (fun cdv A outer s H E hr =>
    (dss_cons (ds_if (dt_cmp deqSF (de_bm PySem.F.plainAttrs_list PySem.F.slot_list_count PySem.F.type_list_count dm_count (dv 0) (da_cons (de_ixF (dv 0) de_int) da_nil)) (de_callB (cb_lenF) T.b_len bt_len (da_cons (dv 0) da_nil))) (dss_one (ds_ret (de_ixF (dv 0) de_int))) dss_nil)
    (dss_one (ds_ret (de_globI T.g_MIXED))))) len body
theorem ok_Windows_far {k : Nat} {sp : DSp} (T : Txt K mg a) (len : ∀ ds G Q E, sp ds G Q E → ds.length = 1)
    (body : ∀ ds G Q E, sp ds G Q E → R_Windows_far a.C_Windows { nx := fun _ G' => cl Q .non G', rt := cl Q } (startD 1 ds) G) : DFn P w K mg base CX0 (k + 1) a.f_Windows_far a.d_Windows_far ["self"] sp :=
  fn_ok T.F_Windows_far sc_Windows_far (R := R_Windows_far a.C_Windows) (fun cdv A outer s H E hr =>
    (dss_one (ds_ret (de_op dsub (de_op dshl de_int (de_fld T.c_Windows T.n_Windows_size (dv 0))) de_int)))) len body
theorem ok_Windows_look {k k_Windows_far : Nat} {sp : DSp} {s_Windows_far : DSp} (T : Txt K mg a) (h_Windows_far : k_Windows_far ≤ k) (G_Windows_far : DFn P w K mg base CX0 k_Windows_far a.f_Windows_far a.d_Windows_far ["self"] s_Windows_far) (len : ∀ ds G Q E, sp ds G Q E → ds.length = 3)
    (body : ∀ ds G Q E, sp ds G Q E → R_Windows_look a.C_Windows s_Windows_far { nx := fun _ G' => cl Q .non G', rt := cl Q } (startD 5 ds) G) : DFn P w K mg base CX0 (k + 1) a.f_Windows_look a.d_Windows_look ["self", "row", "column"] sp :=
  fn_ok T.F_Windows_look sc_Windows_look (R := R_Windows_look a.C_Windows s_Windows_far) (fun cdv A outer s H E hr =>
    (dss_cons (ds_set 3 sc_Windows_look.nd (de_meth0 T.c_Windows T.me_Windows_far G_Windows_far (hr.mono h_Windows_far) T.bi_Windows_far (dv 0)))
    (dss_cons (ds_set 4 sc_Windows_look.nd (de_callB (cb_lenF) T.b_len bt_len (da_cons (de_fld T.c_Windows T.n_Windows_looks (dv 0)) da_nil)))
    (dss_cons (ds_if (DW.pt (dw_or (dt_cmp dlt (de_op dadd (dv 1) (dv 3)) de_int) (dw_or (dt_cmp dlt (de_op dadd (dv 2) (dv 3)) de_int) (dw_or (dt_cmp dge (de_op dadd (dv 1) (dv 3)) (dv 4)) (dw_or1 (dt_cmp dge (de_op dadd (dv 2) (dv 3)) (dv 4))))))) (dss_one (ds_ret de_int)) dss_nil)
    (dss_one (ds_ret (de_ixF (de_ixF (de_fld T.c_Windows T.n_Windows_looks (dv 0)) (de_op dadd (dv 1) (dv 3))) (de_op dadd (dv 2) (dv 3))))))))) len body
theorem ok_greater {k k_one_look k_Windows_look k_Windows_init : Nat} {sp : DSp} {s_one_look s_Windows_look s_Windows_init : DSp} (T : Txt K mg a) (h_one_look : k_one_look ≤ k) (G_one_look : DFn P w K mg base CX0 k_one_look a.f_one_look a.d_one_look ["some"] s_one_look) (h_Windows_look : k_Windows_look ≤ k) (G_Windows_look : DFn P w K mg base CX0 k_Windows_look a.f_Windows_look a.d_Windows_look ["self", "row", "column"] s_Windows_look) (h_Windows_init : k_Windows_init + 1 ≤ k) (G_Windows_init : DFn P w K mg base CX0 k_Windows_init a.f_Windows_init a.d_Windows_init ["self", "size", "looks"] s_Windows_init) (len : ∀ ds G Q E, sp ds G Q E → ds.length = 2)
    (body : ∀ ds G Q E, sp ds G Q E → R_greater a.C_Windows s_one_look s_Windows_look s_Windows_init { nx := fun _ G' => cl Q .non G', rt := cl Q } (startD 11 ds) G) : DFn P w K mg base CX0 (k + 1) a.f_greater a.d_greater ["windows", "side"] sp :=
  fn_ok T.F_greater sc_greater (R := R_greater a.C_Windows s_one_look s_Windows_look s_Windows_init) (fun cdv A outer s H E hr =>
    (dss_cons (ds_set 2 sc_greater.nd (de_op dshl de_int (de_fld T.c_Windows T.n_Windows_size (dv 0))))
    (dss_cons (ds_set 3 sc_greater.nd (de_op dsub (de_op dmul de_int (dv 2)) de_int))
    (dss_cons (ds_set 4 sc_greater.nd (de_lstM da_nil))
    (dss_cons (ds_for PassesOwn.never rfl (di_range2' T.b_range (da_cons (de_neg (dv 3)) (da_cons (dv 1) da_nil))) (tg_nm 5 sc_greater.nd)
    (dss_cons (ds_set 6 sc_greater.nd (de_lstM da_nil))
    (dss_cons (ds_for PassesOwn.never rfl (di_range2' T.b_range (da_cons (de_neg (dv 3)) (da_cons (dv 1) da_nil))) (tg_nm 7 sc_greater.nd)
    (dss_cons (ds_set 8 sc_greater.nd (de_lst (da_cons (de_tup (da_cons (dv 5) (da_cons (dv 7) da_nil))) (da_cons (de_tup (da_cons (dv 5) (da_cons (de_op dadd (dv 7) (dv 2)) da_nil))) (da_cons (de_tup (da_cons (de_op dadd (dv 5) (dv 2)) (da_cons (dv 7) da_nil))) (da_cons (de_tup (da_cons (de_op dadd (dv 5) (dv 2)) (da_cons (de_op dadd (dv 7) (dv 2)) da_nil))) da_nil))))))
    (dss_one (ds_expr (de_bm PySem.F.plainAttrs_list PySem.F.slot_list_append PySem.F.type_list_append dm_append' (dv 6) (da_cons (de_call G_one_look (hr.mono h_one_look) T.m_one_look T.k_one_look T.bi_one_look (da_cons (de_fin (de_lcM (own := [("down", 9), ("right", 10)]) rfl sc_greater.nd (di_seqF (dv 8)) (blkOk_by (N := N_greater) (sc := defScope st_greater) (by decide +kernel)) (fun _ _ _ _ _ => (tg_tp rfl (tgs_cons (tg_nm 9 sc_greater.nd) (tgs_cons (tg_nm 10 sc_greater.nd) tgs_nil)))) (fun _ _ _ _ _ => dts_nil) (fun _ _ _ _ _ => (de_meth T.c_Windows T.me_Windows_look G_Windows_look (hr.mono h_Windows_look) T.bi_Windows_look (dv 0) (da_cons (dv 9) (da_cons (dv 10) da_nil)))))) da_nil)) da_nil))))))
    (dss_one (ds_expr (de_bm PySem.F.plainAttrs_list PySem.F.slot_list_append PySem.F.type_list_append dm_append' (dv 4) (da_cons (dv 6) da_nil)))))))
    (dss_one (ds_ret (de_make T.mk_Windows G_Windows_init (hr.mono h_Windows_init) T.mc_Windows T.bi_Windows_init (da_cons (de_op dadd (de_fld T.c_Windows T.n_Windows_size (dv 0)) de_int) (da_cons (dv 4) da_nil)))))))))) len body
theorem ok_mixed_by_remainder {k k_Windows_far : Nat} {sp : DSp} {s_Windows_far : DSp} (T : Txt K mg a) (h_Windows_far : k_Windows_far ≤ k) (G_Windows_far : DFn P w K mg base CX0 k_Windows_far a.f_Windows_far a.d_Windows_far ["self"] s_Windows_far) (len : ∀ ds G Q E, sp ds G Q E → ds.length = 1)
    (body : ∀ ds G Q E, sp ds G Q E → R_mixed_by_remainder a.C_Windows s_Windows_far { nx := fun _ G' => cl Q .non G', rt := cl Q } (startD 8 ds) G) : DFn P w K mg base CX0 (k + 1) a.f_mixed_by_remainder a.d_mixed_by_remainder ["windows"] sp :=
  fn_ok T.F_mixed_by_remainder sc_mixed_by_remainder (R := R_mixed_by_remainder a.C_Windows s_Windows_far) (fun cdv A outer s H E hr =>
    (dss_cons (ds_set 1 sc_mixed_by_remainder.nd (de_op dshl de_int (de_fld T.c_Windows T.n_Windows_size (dv 0))))
    (dss_cons (ds_set 2 sc_mixed_by_remainder.nd de_dnewN)
    (dss_cons (ds_for PassesOwn.never rfl (di_enumF T.b_enumerate (da_cons (de_fld T.c_Windows T.n_Windows_looks (dv 0)) da_nil)) (tg_tp rfl (tgs_cons (tg_nm 3 sc_mixed_by_remainder.nd) (tgs_cons (tg_nm 4 sc_mixed_by_remainder.nd) tgs_nil)))
    (dss_one (ds_for PassesOwn.never rfl (di_enumF T.b_enumerate (da_cons (dv 4) da_nil)) (tg_tp rfl (tgs_cons (tg_nm 5 sc_mixed_by_remainder.nd) (tgs_cons (tg_nm 6 sc_mixed_by_remainder.nd) tgs_nil)))
    (dss_one (ds_if (dt_cmp deqSF (dv 6) (de_globI T.g_MIXED)) (dss_cons (ds_set 7 sc_mixed_by_remainder.nd (de_tup (da_cons (de_op dmod (de_op dsub (de_meth0 T.c_Windows T.me_Windows_far G_Windows_far (hr.mono h_Windows_far) T.bi_Windows_far (dv 0)) (dv 3)) (dv 1)) (da_cons (de_op dmod (de_op dsub (de_meth0 T.c_Windows T.me_Windows_far G_Windows_far (hr.mono h_Windows_far) T.bi_Windows_far (dv 0)) (dv 5)) (dv 1)) da_nil))))
    (dss_one (ds_dputF hr.u16 (dv 2) (dv 7) (de_op dadd (de_dget2F hr.u16 (dv 2) (dv 7) de_int) de_int)))) dss_nil)))))
    (dss_one (ds_ret (dv 2))))))) len body
theorem ok_all_mixed {k k_cell_windows k_greater k_mixed_by_remainder : Nat} {sp : DSp} {s_cell_windows s_greater s_mixed_by_remainder : DSp} (T : Txt K mg a) (h_cell_windows : k_cell_windows ≤ k) (G_cell_windows : DFn P w K mg base CX0 k_cell_windows a.f_cell_windows a.d_cell_windows ["shape"] s_cell_windows) (h_greater : k_greater ≤ k) (G_greater : DFn P w K mg base CX0 k_greater a.f_greater a.d_greater ["windows", "side"] s_greater) (h_mixed_by_remainder : k_mixed_by_remainder ≤ k) (G_mixed_by_remainder : DFn P w K mg base CX0 k_mixed_by_remainder a.f_mixed_by_remainder a.d_mixed_by_remainder ["windows"] s_mixed_by_remainder) (len : ∀ ds G Q E, sp ds G Q E → ds.length = 1)
    (body : ∀ ds G Q E, sp ds G Q E → R_all_mixed s_cell_windows s_greater s_mixed_by_remainder { nx := fun _ G' => cl Q .non G', rt := cl Q } (startD 4 ds) G) : DFn P w K mg base CX0 (k + 1) a.f_all_mixed a.d_all_mixed ["shape"] sp :=
  fn_ok T.F_all_mixed sc_all_mixed (R := R_all_mixed s_cell_windows s_greater s_mixed_by_remainder) (fun cdv A outer s H E hr =>
    (dss_cons (ds_set 1 sc_all_mixed.nd (de_lstM da_nil))
    (dss_cons (ds_set 2 sc_all_mixed.nd (de_call G_cell_windows (hr.mono h_cell_windows) T.m_cell_windows T.k_cell_windows T.bi_cell_windows (da_cons (dv 0) da_nil)))
    (dss_cons (ds_for PassesOwn.never rfl (di_range1' T.b_range (da_cons (de_ixF (dv 0) de_int) da_nil)) (tg_nm 3 sc_all_mixed.nd)
    (dss_cons (ds_set 2 sc_all_mixed.nd (de_call G_greater (hr.mono h_greater) T.m_greater T.k_greater T.bi_greater (da_cons (dv 2) (da_cons (de_op dshl de_int (de_ixF (dv 0) de_int)) da_nil))))
    (dss_one (ds_expr (de_bm PySem.F.plainAttrs_list PySem.F.slot_list_append PySem.F.type_list_append dm_append' (dv 1) (da_cons (de_call G_mixed_by_remainder (hr.mono h_mixed_by_remainder) T.m_mixed_by_remainder T.k_mixed_by_remainder T.bi_mixed_by_remainder (da_cons (dv 2) da_nil)) da_nil))))))
    (dss_one (ds_ret (dv 1))))))) len body
theorem ok_Counts_init {k : Nat} {sp : DSp} (T : Txt K mg a) (len : ∀ ds G Q E, sp ds G Q E → ds.length = 2)
    (body : ∀ ds G Q E, sp ds G Q E → R_Counts_init a.C_Counts { nx := fun _ G' => cl Q .non G', rt := cl Q } (startD 2 ds) G) : DFn P w K mg base CX0 (k + 1) a.f_Counts_init a.d_Counts_init ["self", "shape"] sp :=
  fn_ok T.F_Counts_init sc_Counts_init (R := R_Counts_init a.C_Counts) (fun cdv A outer s H E hr =>
    (dss_cons (ds_fld T.c_Counts T.n_Counts_rows (dv 0) (de_ixF (dv 1) de_int))
    (dss_cons (ds_fld T.c_Counts T.n_Counts_leaves (dv 0) de_disp2)
    (dss_cons (ds_fld T.c_Counts T.n_Counts_sums (dv 0) de_dnewN)
    (dss_cons (ds_fld T.c_Counts T.n_Counts_ends (dv 0) de_dnewN)
    (dss_one (ds_fld T.c_Counts T.n_Counts_parted (dv 0) de_dnewN))))))) len body
theorem ok_Counts_quarters {k : Nat} {sp : DSp} (T : Txt K mg a) (len : ∀ ds G Q E, sp ds G Q E → ds.length = 2)
    (body : ∀ ds G Q E, sp ds G Q E → R_Counts_quarters a.C_Counts { nx := fun _ G' => cl Q .non G', rt := cl Q } (startD 2 ds) G) : DFn P w K mg base CX0 (k + 1) a.f_Counts_quarters a.d_Counts_quarters ["self", "number"] sp :=
  fn_ok T.F_Counts_quarters sc_Counts_quarters (R := R_Counts_quarters a.C_Counts) (fun cdv A outer s H E hr =>
    (dss_one (ds_ret (de_ixF (de_fld T.c_Counts T.n_Counts_rows (dv 0)) (de_op dsub (dv 1) de_int))))) len body
theorem ok_Counts_ends_of_quarters {k k_Counts_quarters k_Counts_ends_in : Nat} {sp : DSp} {s_Counts_quarters s_Counts_ends_in : DSp} (T : Txt K mg a) (h_Counts_quarters : k_Counts_quarters ≤ k) (G_Counts_quarters : DFn P w K mg base CX0 k_Counts_quarters a.f_Counts_quarters a.d_Counts_quarters ["self", "number"] s_Counts_quarters) (h_Counts_ends_in : k_Counts_ends_in ≤ k) (G_Counts_ends_in : DFn P w K mg base CX0 k_Counts_ends_in a.f_Counts_ends_in a.d_Counts_ends_in ["self", "number", "size"] s_Counts_ends_in) (len : ∀ ds G Q E, sp ds G Q E → ds.length = 3)
    (body : ∀ ds G Q E, sp ds G Q E → R_Counts_ends_of_quarters a.C_Counts s_Counts_quarters s_Counts_ends_in { nx := fun _ G' => cl Q .non G', rt := cl Q } (startD 12 ds) G) : DFn P w K mg base CX0 (k + 1) a.f_Counts_ends_of_quarters a.d_Counts_ends_of_quarters ["self", "number", "size"] sp :=
  fn_ok T.F_Counts_ends_of_quarters sc_Counts_ends_of_quarters (R := R_Counts_ends_of_quarters a.C_Counts s_Counts_quarters s_Counts_ends_in) (fun cdv A outer s H E hr =>
    (dss_cons (ds_set 3 sc_Counts_ends_of_quarters.nd (de_op dshl de_int (de_op dsub (dv 2) de_int)))
    (dss_cons (ds_set 4 sc_Counts_ends_of_quarters.nd (de_lstM da_nil))
    (dss_cons (ds_for PassesOwn.never rfl (di_enumF T.b_enumerate (da_cons (de_meth T.c_Counts T.me_Counts_quarters G_Counts_quarters (hr.mono h_Counts_quarters) T.bi_Counts_quarters (dv 0) (da_cons (dv 1) da_nil)) da_nil)) (tg_tp rfl (tgs_cons (tg_nm 5 sc_Counts_ends_of_quarters.nd) (tgs_cons (tg_nm 6 sc_Counts_ends_of_quarters.nd) tgs_nil)))
    (dss_cons (ds_set 7 sc_Counts_ends_of_quarters.nd (de_meth T.c_Counts T.me_Counts_ends_in G_Counts_ends_in (hr.mono h_Counts_ends_in) T.bi_Counts_ends_in (dv 0) (da_cons (dv 6) (da_cons (de_op dsub (dv 2) de_int) da_nil))))
    (dss_one (ds_if (dt_cmp dnotN (dv 7) de_non) (dss_cons (ds_set 8 sc_Counts_ends_of_quarters.nd (de_op dmul (dv 3) (de_op dfdiv (dv 5) de_int)))
    (dss_cons (ds_set 9 sc_Counts_ends_of_quarters.nd (de_op dmul (dv 3) (de_op dmod (dv 5) de_int)))
    (dss_one (ds_expr (de_bm PySem.F.plainAttrs_list PySem.F.slot_list_append PySem.F.type_list_append dm_append' (dv 4) (da_cons (de_tup (da_cons (de_op dadd (de_ixF (dv 7) de_int) (dv 8)) (da_cons (de_op dadd (de_ixF (dv 7) de_int) (dv 9)) (da_cons (de_op dadd (de_ixF (dv 7) de_int) (dv 8)) (da_cons (de_op dadd (de_ixF (dv 7) de_int) (dv 9)) da_nil))))) da_nil)))))) dss_nil))))
    (dss_cons (ds_set 10 sc_Counts_ends_of_quarters.nd (de_tup (da_cons (de_callB (cb_min' rfl) T.b_min bt_min (da_cons (de_fin (de_lcM (own := [("one", 11)]) rfl sc_Counts_ends_of_quarters.nd (di_seqF (dv 4)) (blkOk_by (N := N_Counts_ends_of_quarters) (sc := defScope st_Counts_ends_of_quarters) (by decide +kernel)) (fun _ _ _ _ _ => (tg_nm 11 sc_Counts_ends_of_quarters.nd)) (fun _ _ _ _ _ => dts_nil) (fun _ _ _ _ _ => (de_ixF (dv 11) de_int)))) da_nil)) (da_cons (de_callB (cb_min' rfl) T.b_min bt_min (da_cons (de_fin (de_lcM (own := [("one", 11)]) rfl sc_Counts_ends_of_quarters.nd (di_seqF (dv 4)) (blkOk_by (N := N_Counts_ends_of_quarters) (sc := defScope st_Counts_ends_of_quarters) (by decide +kernel)) (fun _ _ _ _ _ => (tg_nm 11 sc_Counts_ends_of_quarters.nd)) (fun _ _ _ _ _ => dts_nil) (fun _ _ _ _ _ => (de_ixF (dv 11) de_int)))) da_nil)) da_nil))))
    (dss_one (ds_ret (de_op dcatT (dv 10) (de_tup (da_cons (de_callB (cb_max' rfl) T.b_max bt_max (da_cons (de_fin (de_lcM (own := [("one", 11)]) rfl sc_Counts_ends_of_quarters.nd (di_seqF (dv 4)) (blkOk_by (N := N_Counts_ends_of_quarters) (sc := defScope st_Counts_ends_of_quarters) (by decide +kernel)) (fun _ _ _ _ _ => (tg_nm 11 sc_Counts_ends_of_quarters.nd)) (fun _ _ _ _ _ => dts_nil) (fun _ _ _ _ _ => (de_ixF (dv 11) de_int)))) da_nil)) (da_cons (de_callB (cb_max' rfl) T.b_max bt_max (da_cons (de_fin (de_lcM (own := [("one", 11)]) rfl sc_Counts_ends_of_quarters.nd (di_seqF (dv 4)) (blkOk_by (N := N_Counts_ends_of_quarters) (sc := defScope st_Counts_ends_of_quarters) (by decide +kernel)) (fun _ _ _ _ _ => (tg_nm 11 sc_Counts_ends_of_quarters.nd)) (fun _ _ _ _ _ => dts_nil) (fun _ _ _ _ _ => (de_ixF (dv 11) de_int)))) da_nil)) da_nil))))))))))) len body
theorem ok_Counts_ends_in {k k_Counts_ends_of_quarters : Nat} {sp : DSp} {s_Counts_ends_of_quarters : DSp} (T : Txt K mg a) (h_Counts_ends_of_quarters : k_Counts_ends_of_quarters ≤ k) (G_Counts_ends_of_quarters : DFn P w K mg base CX0 k_Counts_ends_of_quarters a.f_Counts_ends_of_quarters a.d_Counts_ends_of_quarters ["self", "number", "size"] s_Counts_ends_of_quarters) (len : ∀ ds G Q E, sp ds G Q E → ds.length = 3)
    (body : ∀ ds G Q E, sp ds G Q E → R_Counts_ends_in a.C_Counts s_Counts_ends_of_quarters { nx := fun _ G' => cl Q .non G', rt := cl Q } (startD 4 ds) G) : DFn P w K mg base CX0 (k + 1) a.f_Counts_ends_in a.d_Counts_ends_in ["self", "number", "size"] sp :=
  fn_ok T.F_Counts_ends_in sc_Counts_ends_in (R := R_Counts_ends_in a.C_Counts s_Counts_ends_of_quarters) (fun cdv A outer s H E hr =>
    (dss_cons (ds_set 3 sc_Counts_ends_in.nd (de_op dshl de_int (dv 2)))
    (dss_cons (ds_if (dt_cmp deqSF (dv 1) de_int) (dss_one (ds_ret de_non)) dss_nil)
    (dss_cons (ds_if (dt_cmp deqSF (dv 1) de_int) (dss_one (ds_ret (de_tup (da_cons de_int (da_cons de_int (da_cons (de_op dsub (dv 3) de_int) (da_cons (de_op dsub (dv 3) de_int) da_nil))))))) dss_nil)
    (dss_cons (ds_if (dt_cmp (dD_notin hr.u16) (de_tup (da_cons (dv 1) (da_cons (dv 2) da_nil))) (de_fld T.c_Counts T.n_Counts_ends (dv 0))) (dss_one (ds_dputF hr.u16 (de_fld T.c_Counts T.n_Counts_ends (dv 0)) (de_tup (da_cons (dv 1) (da_cons (dv 2) da_nil))) (de_meth T.c_Counts T.me_Counts_ends_of_quarters G_Counts_ends_of_quarters (hr.mono h_Counts_ends_of_quarters) T.bi_Counts_ends_of_quarters (dv 0) (da_cons (dv 1) (da_cons (dv 2) da_nil))))) dss_nil)
    (dss_one (ds_ret (de_dget hr.u16 (de_fld T.c_Counts T.n_Counts_ends (dv 0)) (de_tup (da_cons (dv 1) (da_cons (dv 2) da_nil))))))))))) len body
theorem ok_bounds {k k_want_shape k_Counts_init k_Counts_ends_in : Nat} {sp : DSp} {s_want_shape s_Counts_init s_Counts_ends_in : DSp} (T : Txt K mg a) (h_want_shape : k_want_shape ≤ k) (G_want_shape : DFn P w K mg base CX0 k_want_shape a.f_want_shape a.d_want_shape ["thing"] s_want_shape) (h_Counts_init : k_Counts_init + 1 ≤ k) (G_Counts_init : DFn P w K mg base CX0 k_Counts_init a.f_Counts_init a.d_Counts_init ["self", "shape"] s_Counts_init) (h_Counts_ends_in : k_Counts_ends_in ≤ k) (G_Counts_ends_in : DFn P w K mg base CX0 k_Counts_ends_in a.f_Counts_ends_in a.d_Counts_ends_in ["self", "number", "size"] s_Counts_ends_in) (len : ∀ ds G Q E, sp ds G Q E → ds.length = 1)
    (body : ∀ ds G Q E, sp ds G Q E → R_bounds a.C_Counts s_want_shape s_Counts_init s_Counts_ends_in { nx := fun _ G' => cl Q .non G', rt := cl Q } (startD 1 ds) G) : DFn P w K mg base CX0 (k + 1) a.f_bounds a.d_bounds ["shape"] sp :=
  fn_ok T.F_bounds sc_bounds (R := R_bounds a.C_Counts s_want_shape s_Counts_init s_Counts_ends_in) (fun cdv A outer s H E hr =>
    (dss_cons (ds_expr (de_call G_want_shape (hr.mono h_want_shape) T.m_want_shape T.k_want_shape T.bi_want_shape (da_cons (dv 0) da_nil)))
    (dss_one (ds_ret (de_meth T.c_Counts T.me_Counts_ends_in G_Counts_ends_in (hr.mono h_Counts_ends_in) T.bi_Counts_ends_in (de_make T.mk_Counts G_Counts_init (hr.mono h_Counts_init) T.mc_Counts T.bi_Counts_init (da_cons (dv 0) da_nil)) (da_cons (de_ixF (dv 0) de_int) (da_cons (de_ixF (dv 0) de_int) da_nil))))))) len body
theorem ok_moves_of {k k_bounds : Nat} {sp : DSp} {s_bounds : DSp} (T : Txt K mg a) (h_bounds : k_bounds ≤ k) (G_bounds : DFn P w K mg base CX0 k_bounds a.f_bounds a.d_bounds ["shape"] s_bounds) (len : ∀ ds G Q E, sp ds G Q E → ds.length = 1)
    (body : ∀ ds G Q E, sp ds G Q E → R_moves_of s_bounds { nx := fun _ G' => cl Q .non G', rt := cl Q } (startD 6 ds) G) : DFn P w K mg base CX0 (k + 1) a.f_moves_of a.d_moves_of ["shape"] sp :=
  fn_ok T.F_moves_of sc_moves_of (R := R_moves_of s_bounds) (fun cdv A outer s H E hr =>
    (dss_cons (ds_set 1 sc_moves_of.nd (de_call G_bounds (hr.mono h_bounds) T.m_bounds T.k_bounds T.bi_bounds (da_cons (dv 0) da_nil)))
    (dss_cons (ds_if (dt_cmp disN (dv 1) de_non) (dss_one (ds_ret (de_lst (da_cons (de_tup (da_cons de_int (da_cons de_int da_nil))) da_nil)))) dss_nil)
    (dss_cons (ds_set 2 sc_moves_of.nd (de_op dshl de_int (de_ixF (dv 0) de_int)))
    (dss_cons (ds_set 3 sc_moves_of.nd (de_lstM da_nil))
    (dss_cons (ds_for PassesOwn.never rfl (di_range2' T.b_range (da_cons (de_neg (de_ixF (dv 1) de_int)) (da_cons (de_op dsub (dv 2) (de_ixF (dv 1) de_int)) da_nil))) (tg_nm 4 sc_moves_of.nd)
    (dss_one (ds_expr (de_bm PySem.F.plainAttrs_list PySem.F.slot_list_extend PySem.F.type_list_extend dm_extend' (dv 3) (da_cons (de_fin (de_lcM (own := [("right", 5)]) rfl sc_moves_of.nd (di_range2' T.b_range (da_cons (de_neg (de_ixF (dv 1) de_int)) (da_cons (de_op dsub (dv 2) (de_ixF (dv 1) de_int)) da_nil))) (blkOk_by (N := N_moves_of) (sc := defScope st_moves_of) (by decide +kernel)) (fun _ _ _ _ _ => (tg_nm 5 sc_moves_of.nd)) (fun _ _ _ _ _ => dts_nil) (fun _ _ _ _ _ => (de_tup (da_cons (dv 4) (da_cons (dv 5) da_nil)))))) da_nil)))))
    (dss_one (ds_ret (dv 3))))))))) len body
theorem ok_leaves_behind {k : Nat} {sp : DSp} (T : Txt K mg a) (len : ∀ ds G Q E, sp ds G Q E → ds.length = 3)
    (body : ∀ ds G Q E, sp ds G Q E → R_leaves_behind { nx := fun _ G' => cl Q .non G', rt := cl Q } (startD 7 ds) G) : DFn P w K mg base CX0 (k + 1) a.f_leaves_behind a.d_leaves_behind ["mixed", "down", "right"] sp :=
  fn_ok T.F_leaves_behind sc_leaves_behind (R := R_leaves_behind) (fun cdv A outer s H E hr =>
    (dss_cons (ds_set 3 sc_leaves_behind.nd de_int)
    (dss_cons (ds_for PassesOwn.never rfl (di_enumF T.b_enumerate (da_cons (dv 0) da_nil)) (tg_tp rfl (tgs_cons (tg_nm 4 sc_leaves_behind.nd) (tgs_cons (tg_nm 5 sc_leaves_behind.nd) tgs_nil)))
    (dss_cons (ds_set 6 sc_leaves_behind.nd (de_op dshl de_int (dv 4)))
    (dss_one (ds_aug 3 sc_leaves_behind.nd (de_dget2F hr.u16 (dv 5) (de_tup (da_cons (de_op dmod (dv 1) (dv 6)) (da_cons (de_op dmod (dv 2) (dv 6)) da_nil))) de_int) ip_add))))
    (dss_one (ds_ret (de_op dadd de_int (de_op dmul de_int (dv 3)))))))) len body
theorem ok_fewest {k k_want_shape k_all_mixed k_moves_of k_leaves_behind : Nat} {sp : DSp} {s_want_shape s_all_mixed s_moves_of s_leaves_behind : DSp} (T : Txt K mg a) (h_want_shape : k_want_shape ≤ k) (G_want_shape : DFn P w K mg base CX0 k_want_shape a.f_want_shape a.d_want_shape ["thing"] s_want_shape) (h_all_mixed : k_all_mixed ≤ k) (G_all_mixed : DFn P w K mg base CX0 k_all_mixed a.f_all_mixed a.d_all_mixed ["shape"] s_all_mixed) (h_moves_of : k_moves_of ≤ k) (G_moves_of : DFn P w K mg base CX0 k_moves_of a.f_moves_of a.d_moves_of ["shape"] s_moves_of) (h_leaves_behind : k_leaves_behind ≤ k) (G_leaves_behind : DFn P w K mg base CX0 k_leaves_behind a.f_leaves_behind a.d_leaves_behind ["mixed", "down", "right"] s_leaves_behind) (len : ∀ ds G Q E, sp ds G Q E → ds.length = 1)
    (body : ∀ ds G Q E, sp ds G Q E → R_fewest s_want_shape s_all_mixed s_moves_of s_leaves_behind { nx := fun _ G' => cl Q .non G', rt := cl Q } (startD 4 ds) G) : DFn P w K mg base CX0 (k + 1) a.f_fewest a.d_fewest ["shape"] sp :=
  fn_ok T.F_fewest sc_fewest (R := R_fewest s_want_shape s_all_mixed s_moves_of s_leaves_behind) (fun cdv A outer s H E hr =>
    (dss_cons (ds_expr (de_call G_want_shape (hr.mono h_want_shape) T.m_want_shape T.k_want_shape T.bi_want_shape (da_cons (dv 0) da_nil)))
    (dss_cons (ds_if (dt_cmp dgt (de_ixF (dv 0) de_int) (de_globI T.g_MOST_FEWEST)) (dss_one ds_never) dss_nil)
    (dss_cons (ds_if (dt_cmp deqSF (de_ixF (dv 0) de_int) de_int) (dss_one (ds_ret (de_tup (da_cons de_int (da_cons de_int (da_cons de_int da_nil)))))) dss_nil)
    (dss_cons (ds_set 1 sc_fewest.nd (de_call G_all_mixed (hr.mono h_all_mixed) T.m_all_mixed T.k_all_mixed T.bi_all_mixed (da_cons (dv 0) da_nil)))
    (dss_one (ds_ret (de_callB (cb_minT rfl hr.units) T.b_min bt_min (da_cons (de_fin (de_lcM (own := [("down", 2), ("right", 3)]) rfl sc_fewest.nd (di_seqF (de_call G_moves_of (hr.mono h_moves_of) T.m_moves_of T.k_moves_of T.bi_moves_of (da_cons (dv 0) da_nil))) (blkOk_by (N := N_fewest) (sc := defScope st_fewest) (by decide +kernel)) (fun _ _ _ _ _ => (tg_tp rfl (tgs_cons (tg_nm 2 sc_fewest.nd) (tgs_cons (tg_nm 3 sc_fewest.nd) tgs_nil)))) (fun _ _ _ _ _ => dts_nil) (fun _ _ _ _ _ => (de_tup (da_cons (de_call G_leaves_behind (hr.mono h_leaves_behind) T.m_leaves_behind T.k_leaves_behind T.bi_leaves_behind (da_cons (dv 1) (da_cons (dv 2) (da_cons (dv 3) da_nil)))) (da_cons (dv 2) (da_cons (dv 3) da_nil))))))) da_nil))))))))) len body
theorem ok_law_number {k k_law_number : Nat} {sp : DSp} {s_law_number : DSp} (T : Txt K mg a) (h_law_number : k_law_number ≤ k) (G_law_number : DFn P w K mg base CX0 k_law_number a.f_law_number a.d_law_number ["_law_cells_here", "_law_rows", "_law_known", "_law_box"] s_law_number) (len : ∀ ds G Q E, sp ds G Q E → ds.length = 4)
    (body : ∀ ds G Q E, sp ds G Q E → R_law_number s_law_number { nx := fun _ G' => cl Q .non G', rt := cl Q } (startD 11 ds) G) : DFn P w K mg base CX0 (k + 1) a.f_law_number a.d_law_number ["_law_cells_here", "_law_rows", "_law_known", "_law_box"] sp :=
  fn_ok T.F_law_number sc_law_number (R := R_law_number s_law_number) (fun cdv A outer s H E hr =>
    (dss_cons (ds_asg (dv 3) (tg_tp rfl (tgs_cons (tg_nm 4 sc_law_number.nd) (tgs_cons (tg_nm 5 sc_law_number.nd) (tgs_cons (tg_nm 6 sc_law_number.nd) tgs_nil)))))
    (dss_cons (ds_if (dt_cmp deqSF (dv 6) de_int) (dss_one (ds_ret (de_callTy (cb_intF) T.b_int bt_int (da_cons (de_cmp (dD_in hr.u16) (de_tup (da_cons (dv 4) (da_cons (dv 5) da_nil))) (dv 0)) da_nil)))) dss_nil)
    (dss_cons (ds_set 7 sc_law_number.nd (de_op dfdiv (dv 6) de_int))
    (dss_cons (ds_set 8 sc_law_number.nd (de_lstM da_nil))
    (dss_cons (ds_for PassesOwn.never rfl (di_range1' T.b_range (da_cons de_int da_nil)) (tg_nm 9 sc_law_number.nd)
    (dss_one (ds_expr (de_bm PySem.F.plainAttrs_list PySem.F.slot_list_append PySem.F.type_list_append dm_append' (dv 8) (da_cons (de_call G_law_number (hr.mono h_law_number) T.m_law_number T.k_law_number T.bi_law_number (da_cons (dv 0) (da_cons (dv 1) (da_cons (dv 2) (da_cons (de_tup (da_cons (de_op dadd (dv 4) (de_op dmul (dv 7) (de_op dfdiv (dv 9) de_int))) (da_cons (de_op dadd (dv 5) (de_op dmul (dv 7) (de_op dmod (dv 9) de_int))) (da_cons (dv 7) da_nil)))) da_nil))))) da_nil)))))
    (dss_cons (ds_set 10 sc_law_number.nd (de_callTy (cb_tupleF) T.b_tuple bt_tuple (da_cons (dv 8) da_nil)))
    (dss_cons (ds_if (dt_cmp (dS_in hr.u65) (dv 10) (de_tup (da_cons (de_tup (da_cons de_int (da_cons de_int (da_cons de_int (da_cons de_int da_nil))))) (da_cons (de_tup (da_cons de_int (da_cons de_int (da_cons de_int (da_cons de_int da_nil))))) da_nil)))) (dss_one (ds_ret (de_ixF (dv 10) de_int))) dss_nil)
    (dss_cons (ds_if (dt_cmp (dD_notin hr.u16) (dv 10) (dv 2)) (dss_cons (ds_expr (de_bm PySem.F.plainAttrs_list PySem.F.slot_list_append PySem.F.type_list_append dm_append' (dv 1) (da_cons (dv 10) da_nil)))
    (dss_one (ds_dputF hr.u16 (dv 2) (dv 10) (de_op dadd (de_callB (cb_lenF) T.b_len bt_len (da_cons (dv 1) da_nil)) de_int)))) dss_nil)
    (dss_one (ds_ret (de_dget hr.u16 (dv 2) (dv 10))))))))))))) len body
theorem ok_law_shape {k k_law_number : Nat} {sp : DSp} {s_law_number : DSp} (T : Txt K mg a) (h_law_number : k_law_number ≤ k) (G_law_number : DFn P w K mg base CX0 k_law_number a.f_law_number a.d_law_number ["_law_cells_here", "_law_rows", "_law_known", "_law_box"] s_law_number) (len : ∀ ds G Q E, sp ds G Q E → ds.length = 2)
    (body : ∀ ds G Q E, sp ds G Q E → R_law_shape s_law_number { nx := fun _ G' => cl Q .non G', rt := cl Q } (startD 6 ds) G) : DFn P w K mg base CX0 (k + 1) a.f_law_shape a.d_law_shape ["_law_n", "_law_cells_here"] sp :=
  fn_ok T.F_law_shape sc_law_shape (R := R_law_shape s_law_number) (fun cdv A outer s H E hr =>
    (dss_cons (ds_set 2 sc_law_shape.nd de_dnewN)
    (dss_cons (ds_for PassesOwn.never rfl (di_seqF (dv 1)) (tg_nm 3 sc_law_shape.nd)
    (dss_one (ds_dputF hr.u16 (dv 2) (dv 3) de_bl)))
    (dss_cons (ds_set 4 sc_law_shape.nd (de_lstM da_nil))
    (dss_cons (ds_set 5 sc_law_shape.nd (de_call G_law_number (hr.mono h_law_number) T.m_law_number T.k_law_number T.bi_law_number (da_cons (dv 2) (da_cons (dv 4) (da_cons de_dnewN (da_cons (de_tup (da_cons de_int (da_cons de_int (da_cons (de_op dshl de_int (dv 0)) da_nil)))) da_nil))))))
    (dss_one (ds_ret (de_tup (da_cons (dv 0) (da_cons (dv 5) (da_cons (de_callTy (cb_tupleF) T.b_tuple bt_tuple (da_cons (dv 4) da_nil)) da_nil))))))))))) len body
theorem ok_law_right {k k_law_moves k_law_parted k_law_moved k_fewest k_law_shape : Nat} {sp : DSp} {s_law_moves s_law_parted s_law_moved s_fewest s_law_shape : DSp} (T : Txt K mg a) (h_law_moves : k_law_moves ≤ k) (G_law_moves : DFn P w K mg base CX0 k_law_moves a.f_law_moves a.d_law_moves ["_law_cells_here", "_law_side"] s_law_moves) (h_law_parted : k_law_parted ≤ k) (G_law_parted : DFn P w K mg base CX0 k_law_parted a.f_law_parted a.d_law_parted ["_law_cells_here", "_law_n"] s_law_parted) (h_law_moved : k_law_moved ≤ k) (G_law_moved : DFn P w K mg base CX0 k_law_moved a.f_law_moved a.d_law_moved ["_law_cells_here", "_law_move"] s_law_moved) (h_fewest : k_fewest ≤ k) (G_fewest : DFn P w K mg base CX0 k_fewest a.f_fewest a.d_fewest ["shape"] s_fewest) (h_law_shape : k_law_shape ≤ k) (G_law_shape : DFn P w K mg base CX0 k_law_shape a.f_law_shape a.d_law_shape ["_law_n", "_law_cells_here"] s_law_shape) (len : ∀ ds G Q E, sp ds G Q E → ds.length = 2)
    (body : ∀ ds G Q E, sp ds G Q E → R_law_right s_law_moves s_law_parted s_law_moved s_fewest s_law_shape { nx := fun _ G' => cl Q .non G', rt := cl Q } (startD 5 ds) G) : DFn P w K mg base CX0 (k + 1) a.f_law_right a.d_law_right ["_law_n", "_law_cells_here"] sp :=
  fn_ok T.F_law_right sc_law_right (R := R_law_right s_law_moves s_law_parted s_law_moved s_fewest s_law_shape) (fun cdv A outer s H E hr =>
    (dss_cons (ds_set 2 sc_law_right.nd (de_lstM da_nil))
    (dss_cons (ds_for PassesOwn.never rfl (di_seqF (de_call G_law_moves (hr.mono h_law_moves) T.m_law_moves T.k_law_moves T.bi_law_moves (da_cons (dv 1) (da_cons (de_op dshl de_int (dv 0)) da_nil)))) (tg_nm 3 sc_law_right.nd)
    (dss_one (ds_expr (de_bm PySem.F.plainAttrs_list PySem.F.slot_list_append PySem.F.type_list_append dm_append' (dv 2) (da_cons (de_op dcatT (de_tup (da_cons (de_op dadd de_int (de_op dmul de_int (de_callB (cb_sum' rfl) T.b_sum bt_sum (da_cons (de_call G_law_parted (hr.mono h_law_parted) T.m_law_parted T.k_law_parted T.bi_law_parted (da_cons (de_call G_law_moved (hr.mono h_law_moved) T.m_law_moved T.k_law_moved T.bi_law_moved (da_cons (dv 1) (da_cons (dv 3) da_nil))) (da_cons (dv 0) da_nil))) da_nil)))) da_nil)) (dv 3)) da_nil)))))
    (dss_cons (ds_set 4 sc_law_right.nd (de_call G_fewest (hr.mono h_fewest) T.m_fewest T.k_fewest T.bi_fewest (da_cons (de_call G_law_shape (hr.mono h_law_shape) T.m_law_shape T.k_law_shape T.bi_law_shape (da_cons (dv 0) (da_cons (dv 1) da_nil))) da_nil)))
    (dss_one (ds_ret (de_and (de_callB (cb_isi) T.b_isinstance bt_isinstance (da_cons (dv 4) (da_cons (de_ty T.b_tuple bt_tuple) da_nil))) (de_one (de_cmp (deq hr.units) (dv 4) (de_callB (cb_minT rfl hr.units) T.b_min bt_min (da_cons (dv 2) da_nil))))))))))) len body
theorem ok_law_boxed {k : Nat} {sp : DSp} (T : Txt K mg a) (len : ∀ ds G Q E, sp ds G Q E → ds.length = 1)
    (body : ∀ ds G Q E, sp ds G Q E → R_law_boxed { nx := fun _ G' => cl Q .non G', rt := cl Q } (startD 8 ds) G) : DFn P w K mg base CX0 (k + 1) a.f_law_boxed a.d_law_boxed ["_law_boxes_here"] sp :=
  fn_ok T.F_law_boxed sc_law_boxed (R := R_law_boxed) (fun cdv A outer s H E hr =>
    (dss_cons (ds_set 1 sc_law_boxed.nd de_dnewN)
    (dss_cons (ds_for PassesOwn.never rfl (di_seqF (dv 0)) (tg_tp rfl (tgs_cons (tg_nm 2 sc_law_boxed.nd) (tgs_cons (tg_nm 3 sc_law_boxed.nd) (tgs_cons (tg_nm 4 sc_law_boxed.nd) (tgs_cons (tg_nm 5 sc_law_boxed.nd) tgs_nil)))))
    (dss_one (ds_for PassesOwn.never rfl (di_range2' T.b_range (da_cons (dv 2) (da_cons (de_op dadd (dv 2) (dv 4)) da_nil))) (tg_nm 6 sc_law_boxed.nd)
    (dss_one (ds_for PassesOwn.never rfl (di_range2' T.b_range (da_cons (dv 3) (da_cons (de_op dadd (dv 3) (dv 5)) da_nil))) (tg_nm 7 sc_law_boxed.nd)
    (dss_one (ds_dputF hr.u16 (dv 1) (de_tup (da_cons (dv 6) (da_cons (dv 7) da_nil))) de_bl)))))))
    (dss_one (ds_ret (dv 1)))))) len body
theorem ok_law_boxes {k k_law_row : Nat} {sp : DSp} {s_law_row : DSp} (T : Txt K mg a) (h_law_row : k_law_row ≤ k) (G_law_row : DFn P w K mg base CX0 k_law_row a.f_law_row a.d_law_row ["_law_script", "_law_k", "_law_many", "_law_base"] s_law_row) (len : ∀ ds G Q E, sp ds G Q E → ds.length = 4)
    (body : ∀ ds G Q E, sp ds G Q E → R_law_boxes s_law_row { nx := fun _ G' => cl Q .non G', rt := cl Q } (startD 11 ds) G) : DFn P w K mg base CX0 (k + 1) a.f_law_boxes a.d_law_boxes ["_law_script", "_law_k", "_law_side", "_law_many"] sp :=
  fn_ok T.F_law_boxes sc_law_boxes (R := R_law_boxes s_law_row) (fun cdv A outer s H E hr =>
    (dss_cons (ds_set 4 sc_law_boxes.nd (de_call G_law_row (hr.mono h_law_row) T.m_law_row T.k_law_row T.bi_law_row (da_cons (dv 0) (da_cons (dv 1) (da_cons (de_op dmul de_int (dv 3)) (da_cons (dv 2) da_nil))))))
    (dss_cons (ds_set 5 sc_law_boxes.nd (de_lstM da_nil))
    (dss_cons (ds_for PassesOwn.never rfl (di_range3' T.b_range (da_cons de_int (da_cons (de_op dmul de_int (dv 3)) (da_cons de_int da_nil)))) (tg_nm 6 sc_law_boxes.nd)
    (dss_cons (ds_asgL rfl (de_slice (dv 4) (do_some (dv 6)) (do_some (de_op dadd (dv 6) de_int))) (tgs_cons (tg_nm 7 sc_law_boxes.nd) (tgs_cons (tg_nm 8 sc_law_boxes.nd) (tgs_cons (tg_nm 9 sc_law_boxes.nd) (tgs_cons (tg_nm 10 sc_law_boxes.nd) tgs_nil)))))
    (dss_one (ds_expr (de_bm PySem.F.plainAttrs_list PySem.F.slot_list_append PySem.F.type_list_append dm_append' (dv 5) (da_cons (de_tup (da_cons (dv 7) (da_cons (dv 8) (da_cons (de_op dadd de_int (de_op dmod (dv 9) (de_op dsub (dv 2) (dv 7)))) (da_cons (de_op dadd de_int (de_op dmod (dv 10) (de_op dsub (dv 2) (dv 8)))) da_nil))))) da_nil))))))
    (dss_one (ds_ret (dv 5))))))) len body
theorem ok_law_squares {k k_law_row : Nat} {sp : DSp} {s_law_row : DSp} (T : Txt K mg a) (h_law_row : k_law_row ≤ k) (G_law_row : DFn P w K mg base CX0 k_law_row a.f_law_row a.d_law_row ["_law_script", "_law_k", "_law_many", "_law_base"] s_law_row) (len : ∀ ds G Q E, sp ds G Q E → ds.length = 4)
    (body : ∀ ds G Q E, sp ds G Q E → R_law_squares s_law_row { nx := fun _ G' => cl Q .non G', rt := cl Q } (startD 8 ds) G) : DFn P w K mg base CX0 (k + 1) a.f_law_squares a.d_law_squares ["_law_script", "_law_k", "_law_n", "_law_many"] sp :=
  fn_ok T.F_law_squares sc_law_squares (R := R_law_squares s_law_row) (fun cdv A outer s H E hr =>
    (dss_cons (ds_set 4 sc_law_squares.nd (de_call G_law_row (hr.mono h_law_row) T.m_law_row T.k_law_row T.bi_law_row (da_cons (dv 0) (da_cons (dv 1) (da_cons (de_op dmul de_int (dv 3)) (da_cons (de_op dshl de_int (dv 2)) da_nil))))))
    (dss_cons (ds_set 5 sc_law_squares.nd (de_lstM da_nil))
    (dss_cons (ds_for PassesOwn.never rfl (di_range3' T.b_range (da_cons de_int (da_cons (de_op dmul de_int (dv 3)) (da_cons de_int da_nil)))) (tg_nm 6 sc_law_squares.nd)
    (dss_cons (ds_set 7 sc_law_squares.nd (de_op dshl de_int (de_op dmod (de_ixF (dv 4) (dv 6)) (de_op dadd (dv 2) de_int))))
    (dss_one (ds_expr (de_bm PySem.F.plainAttrs_list PySem.F.slot_list_append PySem.F.type_list_append dm_append' (dv 5) (da_cons (de_tup (da_cons (de_op dmul (de_op dfdiv (de_ixF (dv 4) (de_op dadd (dv 6) de_int)) (dv 7)) (dv 7)) (da_cons (de_op dmul (de_op dfdiv (de_ixF (dv 4) (de_op dadd (dv 6) de_int)) (dv 7)) (dv 7)) (da_cons (dv 7) (da_cons (dv 7) da_nil))))) da_nil))))))
    (dss_one (ds_ret (dv 5))))))) len body
theorem ok_law_cells {k k_law_row k_law_boxed k_law_boxes k_law_squares : Nat} {sp : DSp} {s_law_row s_law_boxed s_law_boxes s_law_squares : DSp} (T : Txt K mg a) (h_law_row : k_law_row ≤ k) (G_law_row : DFn P w K mg base CX0 k_law_row a.f_law_row a.d_law_row ["_law_script", "_law_k", "_law_many", "_law_base"] s_law_row) (h_law_boxed : k_law_boxed ≤ k) (G_law_boxed : DFn P w K mg base CX0 k_law_boxed a.f_law_boxed a.d_law_boxed ["_law_boxes_here"] s_law_boxed) (h_law_boxes : k_law_boxes ≤ k) (G_law_boxes : DFn P w K mg base CX0 k_law_boxes a.f_law_boxes a.d_law_boxes ["_law_script", "_law_k", "_law_side", "_law_many"] s_law_boxes) (h_law_squares : k_law_squares ≤ k) (G_law_squares : DFn P w K mg base CX0 k_law_squares a.f_law_squares a.d_law_squares ["_law_script", "_law_k", "_law_n", "_law_many"] s_law_squares) (len : ∀ ds G Q E, sp ds G Q E → ds.length = 3)
    (body : ∀ ds G Q E, sp ds G Q E → R_law_cells s_law_row s_law_boxed s_law_boxes s_law_squares { nx := fun _ G' => cl Q .non G', rt := cl Q } (startD 8 ds) G) : DFn P w K mg base CX0 (k + 1) a.f_law_cells a.d_law_cells ["_law_script", "_law_k", "_law_n"] sp :=
  fn_ok T.F_law_cells sc_law_cells (R := R_law_cells s_law_row s_law_boxed s_law_boxes s_law_squares) (fun cdv A outer s H E hr =>
    (dss_cons (ds_set 3 sc_law_cells.nd (de_op dshl de_int (dv 2)))
    (dss_cons (ds_asgL rfl (de_call G_law_row (hr.mono h_law_row) T.m_law_row T.k_law_row T.bi_law_row (da_cons (dv 0) (da_cons (dv 1) (da_cons de_int (da_cons de_int da_nil))))) (tgs_cons (tg_nm 4 sc_law_cells.nd) (tgs_cons (tg_nm 5 sc_law_cells.nd) tgs_nil)))
    (dss_cons (ds_if (dt_cmp dlt (dv 4) de_int) (dss_cons (ds_set 6 sc_law_cells.nd (de_call G_law_row (hr.mono h_law_row) T.m_law_row T.k_law_row T.bi_law_row (da_cons (dv 0) (da_cons (de_op dadd (dv 1) de_int) (da_cons (de_op dmul (dv 3) (dv 3)) (da_cons de_int da_nil))))))
    (dss_one (ds_ret (de_fin (de_lcM (own := [("_law_at_here", 7)]) rfl sc_law_cells.nd (di_range1' T.b_range (da_cons (de_op dmul (dv 3) (dv 3)) da_nil)) (blkOk_by (N := N_law_cells) (sc := defScope st_law_cells) (by decide +kernel)) (fun _ _ _ _ _ => (tg_nm 7 sc_law_cells.nd)) (fun _ _ _ _ _ => (dts_one (dt_cmp deqSF (de_ixF (dv 6) (dv 7)) de_int))) (fun _ _ _ _ _ => (de_tup (da_cons (de_op dfdiv (dv 7) (dv 3)) (da_cons (de_op dmod (dv 7) (dv 3)) da_nil))))))))) dss_nil)
    (dss_cons (ds_if (dt_cmp dlt (dv 4) de_int) (dss_one (ds_ret (de_callB (cb_sortDk rfl) T.b_sorted bt_sorted (da_cons (de_call G_law_boxed (hr.mono h_law_boxed) T.m_law_boxed T.k_law_boxed T.bi_law_boxed (da_cons (de_call G_law_boxes (hr.mono h_law_boxes) T.m_law_boxes T.k_law_boxes T.bi_law_boxes (da_cons (dv 0) (da_cons (de_op dadd (dv 1) de_int) (da_cons (dv 3) (da_cons (dv 5) da_nil))))) da_nil)) da_nil)))) dss_nil)
    (dss_one (ds_ret (de_callB (cb_sortDk rfl) T.b_sorted bt_sorted (da_cons (de_call G_law_boxed (hr.mono h_law_boxed) T.m_law_boxed T.k_law_boxed T.bi_law_boxed (da_cons (de_call G_law_squares (hr.mono h_law_squares) T.m_law_squares T.k_law_squares T.bi_law_squares (da_cons (dv 0) (da_cons (de_op dadd (dv 1) de_int) (da_cons (dv 2) (da_cons (dv 5) da_nil))))) da_nil)) da_nil))))))))) len body
theorem ok_law {k k_law_row k_law_right k_law_cells : Nat} {sp : DSp} {s_law_row s_law_right s_law_cells : DSp} (T : Txt K mg a) (h_law_row : k_law_row ≤ k) (G_law_row : DFn P w K mg base CX0 k_law_row a.f_law_row a.d_law_row ["_law_script", "_law_k", "_law_many", "_law_base"] s_law_row) (h_law_right : k_law_right ≤ k) (G_law_right : DFn P w K mg base CX0 k_law_right a.f_law_right a.d_law_right ["_law_n", "_law_cells_here"] s_law_right) (h_law_cells : k_law_cells ≤ k) (G_law_cells : DFn P w K mg base CX0 k_law_cells a.f_law_cells a.d_law_cells ["_law_script", "_law_k", "_law_n"] s_law_cells) (len : ∀ ds G Q E, sp ds G Q E → ds.length = 1)
    (body : ∀ ds G Q E, sp ds G Q E → R_law s_law_row s_law_right s_law_cells { nx := fun _ G' => cl Q .non G', rt := cl Q } (startD 3 ds) G) : DFn P w K mg base CX0 (k + 1) a.f_law a.d_law ["_law_script"] sp :=
  fn_ok T.F_law sc_law (R := R_law s_law_row s_law_right s_law_cells) (fun cdv A outer s H E hr =>
    (dss_cons (ds_for PassesOwn.never rfl (di_seqF (de_tup (da_cons de_int (da_cons de_int da_nil)))) (tg_nm 1 sc_law.nd)
    (dss_cons (ds_set 2 sc_law.nd (de_ixF (de_call G_law_row (hr.mono h_law_row) T.m_law_row T.k_law_row T.bi_law_row (da_cons (dv 0) (da_cons (de_op dadd (dv 1) de_int) (da_cons de_int (da_cons de_int da_nil))))) de_int))
    (dss_one (ds_if (dt_not (dt_val (de_call G_law_right (hr.mono h_law_right) T.m_law_right T.k_law_right T.bi_law_right (da_cons (dv 2) (da_cons (de_call G_law_cells (hr.mono h_law_cells) T.m_law_cells T.k_law_cells T.bi_law_cells (da_cons (dv 0) (da_cons (dv 1) (da_cons (dv 2) da_nil)))) da_nil))))) (dss_one (ds_ret de_bl)) dss_nil))))
    (dss_one (ds_ret de_bl)))) len body
end
section
theorem fn_none {P : Program} {w : World} {K : PySem.W.Frag} {mg : Str → Option Value} {base : Heap} {f : Addr} {fd : FuncData} {ps : List Str} : DFn P w K mg base CX0 0 f fd ps (fun _ _ _ _ => False) :=
  ⟨fun _ _ _ _ h => by obtain ⟨_, _, _, _, _, _, h, _⟩ := h; exact h.elim, fun _ _ _ _ _ _ _ _ _ _ _ _ _ h => by obtain ⟨_, _, _, _, _, _, h, _⟩ := h; exact h.elim⟩
variable {P : Program} {w : World} {K : PySem.W.Frag} {mg : Str → Option Value} {base : Heap} {a : Ad}
theorem all_ok (T : Txt K mg a) : DFn P w K mg base CX0 32 a.f_law a.d_law ["_law_script"] sp_law := by
  have G_law_at : DFn P w K mg base CX0 1 a.f_law_at a.d_law_at ["_law_script", "_law_k"] sp_law_at := ok_law_at (k := 0) T (by intro ds G Q E h; unfold sp_law_at at h; (repeat (obtain ⟨_, h⟩ := h)); subst_vars; rfl) fun ds G Q E h => b_law_at h
  have G_law_mixed : DFn P w K mg base CX0 1 a.f_law_mixed a.d_law_mixed ["_law_number_here", "_law_k"] sp_law_mixed := ok_law_mixed (k := 0) T (by intro ds G Q E h; unfold sp_law_mixed at h; (repeat (obtain ⟨_, h⟩ := h)); subst_vars; rfl) fun ds G Q E h => b_law_mixed h
  have G_law_row : DFn P w K mg base CX0 2 a.f_law_row a.d_law_row ["_law_script", "_law_k", "_law_many", "_law_base"] sp_law_row := ok_law_row (k := 1) T (by decide) G_law_at (by decide) G_law_mixed (by intro ds G Q E h; unfold sp_law_row at h; (repeat (obtain ⟨_, h⟩ := h)); subst_vars; rfl) fun ds G Q E h => b_law_row h
  have G_law_bounds : DFn P w K mg base CX0 1 a.f_law_bounds a.d_law_bounds ["_law_cells_here"] sp_law_bounds := ok_law_bounds (k := 0) T (by intro ds G Q E h; unfold sp_law_bounds at h; (repeat (obtain ⟨_, h⟩ := h)); subst_vars; rfl) fun ds G Q E h => b_law_bounds h
  have G_law_moves : DFn P w K mg base CX0 2 a.f_law_moves a.d_law_moves ["_law_cells_here", "_law_side"] sp_law_moves := ok_law_moves (k := 1) T (by decide) G_law_bounds (by intro ds G Q E h; unfold sp_law_moves at h; (repeat (obtain ⟨_, h⟩ := h)); subst_vars; rfl) fun ds G Q E h => b_law_moves h
  have G_law_parted : DFn P w K mg base CX0 1 a.f_law_parted a.d_law_parted ["_law_cells_here", "_law_n"] sp_law_parted := ok_law_parted (k := 0) T (by intro ds G Q E h; unfold sp_law_parted at h; (repeat (obtain ⟨_, h⟩ := h)); subst_vars; rfl) fun ds G Q E h => b_law_parted h
  have G_law_moved : DFn P w K mg base CX0 1 a.f_law_moved a.d_law_moved ["_law_cells_here", "_law_move"] sp_law_moved := ok_law_moved (k := 0) T (by intro ds G Q E h; unfold sp_law_moved at h; (repeat (obtain ⟨_, h⟩ := h)); subst_vars; rfl) fun ds G Q E h => b_law_moved h
  have G_is_whole : DFn P w K mg base CX0 1 a.f_is_whole a.d_is_whole ["thing"] sp_is_whole := ok_is_whole (k := 0) T (by intro ds G Q E h; unfold sp_is_whole at h; (repeat (obtain ⟨_, h⟩ := h)); subst_vars; rfl) fun ds G Q E h => b_is_whole h
  have G_is_size : DFn P w K mg base CX0 2 a.f_is_size a.d_is_size ["thing"] sp_is_size := ok_is_size (k := 1) T (by decide) G_is_whole (by intro ds G Q E h; unfold sp_is_size at h; (repeat (obtain ⟨_, h⟩ := h)); subst_vars; rfl) fun ds G Q E h => b_is_size h
  have G_is_number : DFn P w K mg base CX0 2 a.f_is_number a.d_is_number ["thing", "most"] sp_is_number := ok_is_number (k := 1) T (by decide) G_is_whole (by intro ds G Q E h; unfold sp_is_number at h; (repeat (obtain ⟨_, h⟩ := h)); subst_vars; rfl) fun ds G Q E h => b_is_number h
  have G_is_row : DFn P w K mg base CX0 3 a.f_is_row a.d_is_row ["thing", "place"] sp_is_row := ok_is_row (k := 2) T (by decide) G_is_number (by intro ds G Q E h; unfold sp_is_row at h; (repeat (obtain ⟨_, h⟩ := h)); subst_vars; rfl) fun ds G Q E h => b_is_row h
  have G_depths_of : DFn P w K mg base CX0 1 a.f_depths_of a.d_depths_of ["rows"] sp_depths_of := ok_depths_of (k := 0) T (by intro ds G Q E h; unfold sp_depths_of at h; (repeat (obtain ⟨_, h⟩ := h)); subst_vars; rfl) fun ds G Q E h => b_depths_of h
  have G_is_telling : DFn P w K mg base CX0 4 a.f_is_telling a.d_is_telling ["thing"] sp_is_telling := ok_is_telling (k := 3) T (by decide) G_is_size (by decide) G_is_row (by decide) G_is_number (by decide) G_depths_of (by intro ds G Q E h; unfold sp_is_telling at h; (repeat (obtain ⟨_, h⟩ := h)); subst_vars; rfl) fun ds G Q E h => b_is_telling h
  have G_Rows_init : DFn P w K mg base CX0 1 a.f_Rows_init a.d_Rows_init ["self"] (sp_Rows_init a.C_Rows) := ok_Rows_init (k := 0) T (by intro ds G Q E h; unfold sp_Rows_init at h; (repeat (obtain ⟨_, h⟩ := h)); subst_vars; rfl) fun ds G Q E h => b_Rows_init h
  have G_Rows_number : DFn P w K mg base CX0 1 a.f_Rows_number a.d_Rows_number ["self", "quarters"] (sp_Rows_number a.C_Rows) := ok_Rows_number (k := 0) T (by intro ds G Q E h; unfold sp_Rows_number at h; (repeat (obtain ⟨_, h⟩ := h)); subst_vars; rfl) fun ds G Q E h => b_Rows_number h
  have G_Rows_take : DFn P w K mg base CX0 2 a.f_Rows_take a.d_Rows_take ["self", "telling"] (sp_Rows_take a.C_Rows) := ok_Rows_take (k := 1) T (by decide) G_Rows_number (by intro ds G Q E h; unfold sp_Rows_take at h; (repeat (obtain ⟨_, h⟩ := h)); subst_vars; rfl) fun ds G Q E h => b_Rows_take h
  have G_Rows_quarters : DFn P w K mg base CX0 1 a.f_Rows_quarters a.d_Rows_quarters ["self", "number"] (sp_Rows_quarters a.C_Rows) := ok_Rows_quarters (k := 0) T (by intro ds G Q E h; unfold sp_Rows_quarters at h; (repeat (obtain ⟨_, h⟩ := h)); subst_vars; rfl) fun ds G Q E h => b_Rows_quarters h
  have GG_Rows_order : ∀ n : Nat, DFn P w K mg base CX0 (1 + n + 1) a.f_Rows_order a.d_Rows_order ["self", "number", "found"] (sp_Rows_order a.C_Rows n) := fun n => by
    induction n with
    | zero => exact ok_Rows_order (k := 1 + 0) T (by omega) G_Rows_quarters (Nat.zero_le _) fn_none (by intro ds G Q E h; unfold sp_Rows_order at h; (repeat (obtain ⟨_, h⟩ := h)); subst_vars; rfl) fun ds G Q E h => b_Rows_order (fun j e => by cases e) h
    | succ n ih => exact ok_Rows_order (k := 1 + n + 1) T (by omega) G_Rows_quarters (Nat.le_refl _) ih (by intro ds G Q E h; unfold sp_Rows_order at h; (repeat (obtain ⟨_, h⟩ := h)); subst_vars; rfl) fun ds G Q E h => b_Rows_order (fun j e => by cases e; rfl) h
  have G_Rows_order : DFn P w K mg base CX0 14 a.f_Rows_order a.d_Rows_order ["self", "number", "found"] (sp_Rows_order a.C_Rows 12) := GG_Rows_order 12
  have G_Rows_shape : DFn P w K mg base CX0 15 a.f_Rows_shape a.d_Rows_shape ["self", "n", "top"] (sp_Rows_shape a.C_Rows 12) := ok_Rows_shape (k := 14) T (by decide) G_Rows_order (by decide) G_Rows_quarters (by intro ds G Q E h; unfold sp_Rows_shape at h; (repeat (obtain ⟨_, h⟩ := h)); subst_vars; rfl) fun ds G Q E h => b_Rows_shape h
  have G_one_of : DFn P w K mg base CX0 16 a.f_one_of a.d_one_of ["telling"] sp_one_of := ok_one_of (k := 15) T (by decide) G_Rows_init (by decide) G_Rows_take (by decide) G_Rows_shape (by intro ds G Q E h; unfold sp_one_of at h; (repeat (obtain ⟨_, h⟩ := h)); subst_vars; rfl) fun ds G Q E h => b_one_of h
  have G_is_shape : DFn P w K mg base CX0 17 a.f_is_shape a.d_is_shape ["thing"] sp_is_shape := ok_is_shape (k := 16) T (by decide) G_is_telling (by decide) G_one_of (by intro ds G Q E h; unfold sp_is_shape at h; (repeat (obtain ⟨_, h⟩ := h)); subst_vars; rfl) fun ds G Q E h => b_is_shape h
  have G_want_shape : DFn P w K mg base CX0 18 a.f_want_shape a.d_want_shape ["thing"] sp_want_shape := ok_want_shape (k := 17) T (by decide) G_is_shape (by intro ds G Q E h; unfold sp_want_shape at h; (repeat (obtain ⟨_, h⟩ := h)); subst_vars; rfl) fun ds G Q E h => b_want_shape h
  have GG_paint : ∀ n : Nat, DFn P w K mg base CX0 (0 + n + 1) a.f_paint a.d_paint ["rows", "number", "box", "looks"] (sp_paint n) := fun n => by
    induction n with
    | zero => exact ok_paint (k := 0 + 0) T (Nat.zero_le _) fn_none (by intro ds G Q E h; unfold sp_paint at h; (repeat (obtain ⟨_, h⟩ := h)); subst_vars; rfl) fun ds G Q E h => b_paint (fun j e => by cases e) h
    | succ n ih => exact ok_paint (k := 0 + n + 1) T (Nat.le_refl _) ih (by intro ds G Q E h; unfold sp_paint at h; (repeat (obtain ⟨_, h⟩ := h)); subst_vars; rfl) fun ds G Q E h => b_paint (fun j e => by cases e; rfl) h
  have G_paint : DFn P w K mg base CX0 13 a.f_paint a.d_paint ["rows", "number", "box", "looks"] (sp_paint 12) := GG_paint 12
  have G_Windows_init : DFn P w K mg base CX0 1 a.f_Windows_init a.d_Windows_init ["self", "size", "looks"] (sp_Windows_init a.C_Windows) := ok_Windows_init (k := 0) T (by intro ds G Q E h; unfold sp_Windows_init at h; (repeat (obtain ⟨_, h⟩ := h)); subst_vars; rfl) fun ds G Q E h => b_Windows_init h
  have G_cell_windows : DFn P w K mg base CX0 14 a.f_cell_windows a.d_cell_windows ["shape"] (sp_cell_windows a.C_Windows) := ok_cell_windows (k := 13) T (by decide) G_paint (by decide) G_Windows_init (by intro ds G Q E h; unfold sp_cell_windows at h; (repeat (obtain ⟨_, h⟩ := h)); subst_vars; rfl) fun ds G Q E h => b_cell_windows h
  have G_one_look : DFn P w K mg base CX0 1 a.f_one_look a.d_one_look ["some"] sp_one_look := ok_one_look (k := 0) T (by intro ds G Q E h; unfold sp_one_look at h; (repeat (obtain ⟨_, h⟩ := h)); subst_vars; rfl) fun ds G Q E h => b_one_look h
  have G_Windows_far : DFn P w K mg base CX0 1 a.f_Windows_far a.d_Windows_far ["self"] (sp_Windows_far a.C_Windows) := ok_Windows_far (k := 0) T (by intro ds G Q E h; unfold sp_Windows_far at h; (repeat (obtain ⟨_, h⟩ := h)); subst_vars; rfl) fun ds G Q E h => b_Windows_far h
  have G_Windows_look : DFn P w K mg base CX0 2 a.f_Windows_look a.d_Windows_look ["self", "row", "column"] (sp_Windows_look a.C_Windows) := ok_Windows_look (k := 1) T (by decide) G_Windows_far (by intro ds G Q E h; unfold sp_Windows_look at h; (repeat (obtain ⟨_, h⟩ := h)); subst_vars; rfl) fun ds G Q E h => b_Windows_look h
  have G_greater : DFn P w K mg base CX0 3 a.f_greater a.d_greater ["windows", "side"] (sp_greater a.C_Windows) := ok_greater (k := 2) T (by decide) G_one_look (by decide) G_Windows_look (by decide) G_Windows_init (by intro ds G Q E h; unfold sp_greater at h; (repeat (obtain ⟨_, h⟩ := h)); subst_vars; rfl) fun ds G Q E h => b_greater h
  have G_mixed_by_remainder : DFn P w K mg base CX0 2 a.f_mixed_by_remainder a.d_mixed_by_remainder ["windows"] (sp_mixed_by_remainder a.C_Windows) := ok_mixed_by_remainder (k := 1) T (by decide) G_Windows_far (by intro ds G Q E h; unfold sp_mixed_by_remainder at h; (repeat (obtain ⟨_, h⟩ := h)); subst_vars; rfl) fun ds G Q E h => b_mixed_by_remainder h
  have G_all_mixed : DFn P w K mg base CX0 15 a.f_all_mixed a.d_all_mixed ["shape"] sp_all_mixed := ok_all_mixed (k := 14) T (by decide) G_cell_windows (by decide) G_greater (by decide) G_mixed_by_remainder (by intro ds G Q E h; unfold sp_all_mixed at h; (repeat (obtain ⟨_, h⟩ := h)); subst_vars; rfl) fun ds G Q E h => b_all_mixed h
  have G_Counts_init : DFn P w K mg base CX0 1 a.f_Counts_init a.d_Counts_init ["self", "shape"] (sp_Counts_init a.C_Counts) := ok_Counts_init (k := 0) T (by intro ds G Q E h; unfold sp_Counts_init at h; (repeat (obtain ⟨_, h⟩ := h)); subst_vars; rfl) fun ds G Q E h => b_Counts_init h
  have G_Counts_quarters : DFn P w K mg base CX0 1 a.f_Counts_quarters a.d_Counts_quarters ["self", "number"] (sp_Counts_quarters a.C_Counts) := ok_Counts_quarters (k := 0) T (by intro ds G Q E h; unfold sp_Counts_quarters at h; (repeat (obtain ⟨_, h⟩ := h)); subst_vars; rfl) fun ds G Q E h => b_Counts_quarters h
  have GG_Counts_ends_in : ∀ n : Nat, DFn P w K mg base CX0 (1 + 2 * n + 2) a.f_Counts_ends_in a.d_Counts_ends_in ["self", "number", "size"] (sp_Counts_ends_in a.C_Counts n) := fun n => by
    induction n with
    | zero =>
      have g0 : DFn P w K mg base CX0 (1 + 1) a.f_Counts_ends_of_quarters a.d_Counts_ends_of_quarters ["self", "number", "size"] (sp_Counts_eoq a.C_Counts 0) := ok_Counts_ends_of_quarters (k := 1) T (by omega) G_Counts_quarters (Nat.zero_le _) fn_none (by intro ds G Q E h; unfold sp_Counts_eoq at h; (repeat (obtain ⟨_, h⟩ := h)); subst_vars; rfl) fun ds G Q E h => b_Counts_eoq (fun j e => by cases e) h
      exact ok_Counts_ends_in (k := 1 + 1) T (Nat.le_refl _) g0 (by intro ds G Q E h; unfold sp_Counts_ends_in at h; (repeat (obtain ⟨_, h⟩ := h)); subst_vars; rfl) fun ds G Q E h => b_Counts_ends_in rfl h
    | succ n ih =>
      have g0 : DFn P w K mg base CX0 (1 + 2 * n + 3) a.f_Counts_ends_of_quarters a.d_Counts_ends_of_quarters ["self", "number", "size"] (sp_Counts_eoq a.C_Counts (n + 1)) := ok_Counts_ends_of_quarters (k := 1 + 2 * n + 2) T (by omega) G_Counts_quarters (Nat.le_refl _) ih (by intro ds G Q E h; unfold sp_Counts_eoq at h; (repeat (obtain ⟨_, h⟩ := h)); subst_vars; rfl) fun ds G Q E h => b_Counts_eoq (fun j e => by cases e; rfl) h
      exact ok_Counts_ends_in (k := 1 + 2 * n + 3) T (Nat.le_refl _) g0 (by intro ds G Q E h; unfold sp_Counts_ends_in at h; (repeat (obtain ⟨_, h⟩ := h)); subst_vars; rfl) fun ds G Q E h => b_Counts_ends_in rfl h
  have G_Counts_ends_in : DFn P w K mg base CX0 27 a.f_Counts_ends_in a.d_Counts_ends_in ["self", "number", "size"] (sp_Counts_ends_in a.C_Counts 12) := GG_Counts_ends_in 12
  have G_bounds : DFn P w K mg base CX0 28 a.f_bounds a.d_bounds ["shape"] sp_bounds := ok_bounds (k := 27) T (by decide) G_want_shape (by decide) G_Counts_init (by decide) G_Counts_ends_in (by intro ds G Q E h; unfold sp_bounds at h; (repeat (obtain ⟨_, h⟩ := h)); subst_vars; rfl) fun ds G Q E h => b_bounds h
  have G_moves_of : DFn P w K mg base CX0 29 a.f_moves_of a.d_moves_of ["shape"] sp_moves_of := ok_moves_of (k := 28) T (by decide) G_bounds (by intro ds G Q E h; unfold sp_moves_of at h; (repeat (obtain ⟨_, h⟩ := h)); subst_vars; rfl) fun ds G Q E h => b_moves_of h
  have G_leaves_behind : DFn P w K mg base CX0 1 a.f_leaves_behind a.d_leaves_behind ["mixed", "down", "right"] sp_leaves_behind := ok_leaves_behind (k := 0) T (by intro ds G Q E h; unfold sp_leaves_behind at h; (repeat (obtain ⟨_, h⟩ := h)); subst_vars; rfl) fun ds G Q E h => b_leaves_behind h
  have G_fewest : DFn P w K mg base CX0 30 a.f_fewest a.d_fewest ["shape"] sp_fewest := ok_fewest (k := 29) T (by decide) G_want_shape (by decide) G_all_mixed (by decide) G_moves_of (by decide) G_leaves_behind (by intro ds G Q E h; unfold sp_fewest at h; (repeat (obtain ⟨_, h⟩ := h)); subst_vars; rfl) fun ds G Q E h => b_fewest h
  have GG_law_number : ∀ n : Nat, DFn P w K mg base CX0 (0 + n + 1) a.f_law_number a.d_law_number ["_law_cells_here", "_law_rows", "_law_known", "_law_box"] (sp_law_number n) := fun n => by
    induction n with
    | zero => exact ok_law_number (k := 0 + 0) T (Nat.zero_le _) fn_none (by intro ds G Q E h; unfold sp_law_number at h; (repeat (obtain ⟨_, h⟩ := h)); subst_vars; rfl) fun ds G Q E h => b_law_number (fun j e => by cases e) h
    | succ n ih => exact ok_law_number (k := 0 + n + 1) T (Nat.le_refl _) ih (by intro ds G Q E h; unfold sp_law_number at h; (repeat (obtain ⟨_, h⟩ := h)); subst_vars; rfl) fun ds G Q E h => b_law_number (fun j e => by cases e; rfl) h
  have G_law_number : DFn P w K mg base CX0 9 a.f_law_number a.d_law_number ["_law_cells_here", "_law_rows", "_law_known", "_law_box"] (sp_law_number 8) := GG_law_number 8
  have G_law_shape : DFn P w K mg base CX0 10 a.f_law_shape a.d_law_shape ["_law_n", "_law_cells_here"] sp_law_shape := ok_law_shape (k := 9) T (by decide) G_law_number (by intro ds G Q E h; unfold sp_law_shape at h; (repeat (obtain ⟨_, h⟩ := h)); subst_vars; rfl) fun ds G Q E h => b_law_shape h
  have G_law_right : DFn P w K mg base CX0 31 a.f_law_right a.d_law_right ["_law_n", "_law_cells_here"] sp_law_right := ok_law_right (k := 30) T (by decide) G_law_moves (by decide) G_law_parted (by decide) G_law_moved (by decide) G_fewest (by decide) G_law_shape (by intro ds G Q E h; unfold sp_law_right at h; (repeat (obtain ⟨_, h⟩ := h)); subst_vars; rfl) fun ds G Q E h => b_law_right h
  have G_law_boxed : DFn P w K mg base CX0 1 a.f_law_boxed a.d_law_boxed ["_law_boxes_here"] sp_law_boxed := ok_law_boxed (k := 0) T (by intro ds G Q E h; unfold sp_law_boxed at h; (repeat (obtain ⟨_, h⟩ := h)); subst_vars; rfl) fun ds G Q E h => b_law_boxed h
  have G_law_boxes : DFn P w K mg base CX0 3 a.f_law_boxes a.d_law_boxes ["_law_script", "_law_k", "_law_side", "_law_many"] sp_law_boxes := ok_law_boxes (k := 2) T (by decide) G_law_row (by intro ds G Q E h; unfold sp_law_boxes at h; (repeat (obtain ⟨_, h⟩ := h)); subst_vars; rfl) fun ds G Q E h => b_law_boxes h
  have G_law_squares : DFn P w K mg base CX0 3 a.f_law_squares a.d_law_squares ["_law_script", "_law_k", "_law_n", "_law_many"] sp_law_squares := ok_law_squares (k := 2) T (by decide) G_law_row (by intro ds G Q E h; unfold sp_law_squares at h; (repeat (obtain ⟨_, h⟩ := h)); subst_vars; rfl) fun ds G Q E h => b_law_squares h
  have G_law_cells : DFn P w K mg base CX0 4 a.f_law_cells a.d_law_cells ["_law_script", "_law_k", "_law_n"] sp_law_cells := ok_law_cells (k := 3) T (by decide) G_law_row (by decide) G_law_boxed (by decide) G_law_boxes (by decide) G_law_squares (by intro ds G Q E h; unfold sp_law_cells at h; (repeat (obtain ⟨_, h⟩ := h)); subst_vars; rfl) fun ds G Q E h => b_law_cells h
  have G_law : DFn P w K mg base CX0 32 a.f_law a.d_law ["_law_script"] sp_law := ok_law (k := 31) T (by decide) G_law_row (by decide) G_law_right (by decide) G_law_cells (by intro ds G Q E h; unfold sp_law at h; (repeat (obtain ⟨_, h⟩ := h)); subst_vars; rfl) fun ds G Q E h => b_law h
  exact G_law
end
theorem all_mk {l : PySem.W.OpenLaw} {w : World} {K : PySem.W.Frag} {h : Heap} {mg : Str → Option Value} {fa : Addr} (X : K.In h) (G : h.Ns mainGlobals mg) (hfa : mg "law" = some (.ref fa))
    {C_Rows C_Windows C_Counts f_law_at f_law_mixed f_law_row f_law_bounds f_law_moves f_law_parted f_law_moved f_is_whole f_is_size f_is_number f_is_row f_depths_of f_is_telling f_Rows_init f_Rows_number f_Rows_take f_Rows_quarters f_Rows_order f_Rows_shape f_one_of f_is_shape f_want_shape f_paint f_Windows_init f_cell_windows f_one_look f_Windows_far f_Windows_look f_greater f_mixed_by_remainder f_all_mixed f_Counts_init f_Counts_quarters f_Counts_ends_of_quarters f_Counts_ends_in f_bounds f_moves_of f_leaves_behind f_fewest f_law_number f_law_shape f_law_right f_law_boxed f_law_boxes f_law_squares f_law_cells f_law : Addr}
    {od_law_at an_law_at od_law_mixed an_law_mixed od_law_row an_law_row od_law_bounds an_law_bounds od_law_moves an_law_moves od_law_parted an_law_parted od_law_moved an_law_moved od_is_whole an_is_whole od_is_size an_is_size od_is_number an_is_number od_is_row an_is_row od_depths_of an_depths_of od_is_telling an_is_telling od_Rows_init an_Rows_init od_Rows_number an_Rows_number od_Rows_take an_Rows_take od_Rows_quarters an_Rows_quarters od_Rows_order an_Rows_order od_Rows_shape an_Rows_shape od_one_of an_one_of od_is_shape an_is_shape od_want_shape an_want_shape od_paint an_paint od_Windows_init an_Windows_init od_cell_windows an_cell_windows od_one_look an_one_look od_Windows_far an_Windows_far od_Windows_look an_Windows_look od_greater an_greater od_mixed_by_remainder an_mixed_by_remainder od_all_mixed an_all_mixed od_Counts_init an_Counts_init od_Counts_quarters an_Counts_quarters od_Counts_ends_of_quarters an_Counts_ends_of_quarters od_Counts_ends_in an_Counts_ends_in od_bounds an_bounds od_moves_of an_moves_of od_leaves_behind an_leaves_behind od_fewest an_fewest od_law_number an_law_number od_law_shape an_law_shape od_law_right an_law_right od_law_boxed an_law_boxed od_law_boxes an_law_boxes od_law_squares an_law_squares od_law_cells an_law_cells od_law an_law : Option Addr}
    {sl_law_at sl_law_mixed sl_law_row sl_law_bounds sl_law_moves sl_law_parted sl_law_moved sl_is_whole sl_is_size sl_is_number sl_is_row sl_depths_of sl_is_telling sl_Rows_init sl_Rows_number sl_Rows_take sl_Rows_quarters sl_Rows_order sl_Rows_shape sl_one_of sl_is_shape sl_want_shape sl_paint sl_Windows_init sl_cell_windows sl_one_look sl_Windows_far sl_Windows_look sl_greater sl_mixed_by_remainder sl_all_mixed sl_Counts_init sl_Counts_quarters sl_Counts_ends_of_quarters sl_Counts_ends_in sl_bounds sl_moves_of sl_leaves_behind sl_fewest sl_law_number sl_law_shape sl_law_right sl_law_boxed sl_law_boxes sl_law_squares sl_law_cells sl_law : Array (Option Value)}
    {oc_law_at kV_law_at dc_law_at pm_law_at cd_law_at ct_law_at oc_law_mixed kV_law_mixed dc_law_mixed pm_law_mixed cd_law_mixed ct_law_mixed oc_law_row kV_law_row dc_law_row pm_law_row cd_law_row ct_law_row oc_law_bounds kV_law_bounds dc_law_bounds pm_law_bounds cd_law_bounds ct_law_bounds oc_law_moves kV_law_moves dc_law_moves pm_law_moves cd_law_moves ct_law_moves oc_law_parted kV_law_parted dc_law_parted pm_law_parted cd_law_parted ct_law_parted oc_law_moved kV_law_moved dc_law_moved pm_law_moved cd_law_moved ct_law_moved oc_is_whole kV_is_whole dc_is_whole pm_is_whole cd_is_whole ct_is_whole oc_is_size kV_is_size dc_is_size pm_is_size cd_is_size ct_is_size oc_is_number kV_is_number dc_is_number pm_is_number cd_is_number ct_is_number oc_is_row kV_is_row dc_is_row pm_is_row cd_is_row ct_is_row oc_depths_of kV_depths_of dc_depths_of pm_depths_of cd_depths_of ct_depths_of oc_is_telling kV_is_telling dc_is_telling pm_is_telling cd_is_telling ct_is_telling oc_Rows_init kV_Rows_init dc_Rows_init pm_Rows_init cd_Rows_init ct_Rows_init oc_Rows_number kV_Rows_number dc_Rows_number pm_Rows_number cd_Rows_number ct_Rows_number oc_Rows_take kV_Rows_take dc_Rows_take pm_Rows_take cd_Rows_take ct_Rows_take oc_Rows_quarters kV_Rows_quarters dc_Rows_quarters pm_Rows_quarters cd_Rows_quarters ct_Rows_quarters oc_Rows_order kV_Rows_order dc_Rows_order pm_Rows_order cd_Rows_order ct_Rows_order oc_Rows_shape kV_Rows_shape dc_Rows_shape pm_Rows_shape cd_Rows_shape ct_Rows_shape oc_one_of kV_one_of dc_one_of pm_one_of cd_one_of ct_one_of oc_is_shape kV_is_shape dc_is_shape pm_is_shape cd_is_shape ct_is_shape oc_want_shape kV_want_shape dc_want_shape pm_want_shape cd_want_shape ct_want_shape oc_paint kV_paint dc_paint pm_paint cd_paint ct_paint oc_Windows_init kV_Windows_init dc_Windows_init pm_Windows_init cd_Windows_init ct_Windows_init oc_cell_windows kV_cell_windows dc_cell_windows pm_cell_windows cd_cell_windows ct_cell_windows oc_one_look kV_one_look dc_one_look pm_one_look cd_one_look ct_one_look oc_Windows_far kV_Windows_far dc_Windows_far pm_Windows_far cd_Windows_far ct_Windows_far oc_Windows_look kV_Windows_look dc_Windows_look pm_Windows_look cd_Windows_look ct_Windows_look oc_greater kV_greater dc_greater pm_greater cd_greater ct_greater oc_mixed_by_remainder kV_mixed_by_remainder dc_mixed_by_remainder pm_mixed_by_remainder cd_mixed_by_remainder ct_mixed_by_remainder oc_all_mixed kV_all_mixed dc_all_mixed pm_all_mixed cd_all_mixed ct_all_mixed oc_Counts_init kV_Counts_init dc_Counts_init pm_Counts_init cd_Counts_init ct_Counts_init oc_Counts_quarters kV_Counts_quarters dc_Counts_quarters pm_Counts_quarters cd_Counts_quarters ct_Counts_quarters oc_Counts_ends_of_quarters kV_Counts_ends_of_quarters dc_Counts_ends_of_quarters pm_Counts_ends_of_quarters cd_Counts_ends_of_quarters ct_Counts_ends_of_quarters oc_Counts_ends_in kV_Counts_ends_in dc_Counts_ends_in pm_Counts_ends_in cd_Counts_ends_in ct_Counts_ends_in oc_bounds kV_bounds dc_bounds pm_bounds cd_bounds ct_bounds oc_moves_of kV_moves_of dc_moves_of pm_moves_of cd_moves_of ct_moves_of oc_leaves_behind kV_leaves_behind dc_leaves_behind pm_leaves_behind cd_leaves_behind ct_leaves_behind oc_fewest kV_fewest dc_fewest pm_fewest cd_fewest ct_fewest oc_law_number kV_law_number dc_law_number pm_law_number cd_law_number ct_law_number oc_law_shape kV_law_shape dc_law_shape pm_law_shape cd_law_shape ct_law_shape oc_law_right kV_law_right dc_law_right pm_law_right cd_law_right ct_law_right oc_law_boxed kV_law_boxed dc_law_boxed pm_law_boxed cd_law_boxed ct_law_boxed oc_law_boxes kV_law_boxes dc_law_boxes pm_law_boxes cd_law_boxes ct_law_boxes oc_law_squares kV_law_squares dc_law_squares pm_law_squares cd_law_squares ct_law_squares oc_law_cells kV_law_cells dc_law_cells pm_law_cells cd_law_cells ct_law_cells oc_law kV_law dc_law pm_law cd_law ct_law : Value}
    {t_MIXED t_MOST_FEWEST t_MOST_SIZE : Tok}
    (aC_Rows : PySem.W.nsIn K mainGlobals "Rows" = some (some (.ref C_Rows)))
    (pgC_Rows : PySem.W.plainGet K C_Rows Str.empty = true)
    (hdC_Rows : PySem.W.hasDictIn K C_Rows = true)
    (poC_Rows : PySem.W.plainOver K C_Rows = true)
    (saC_Rows : PySem.W.findIn K (.ref C_Rows) "__setattr__" = some (some (.builtin "object.__setattr__")))
    (mkC_Rows : PySem.W.makesIn K C_Rows = true)
    (kcC_Rows : PySem.W.keepIn K (.ref C_Rows) = true)
    (aC_Windows : PySem.W.nsIn K mainGlobals "Windows" = some (some (.ref C_Windows)))
    (pgC_Windows : PySem.W.plainGet K C_Windows Str.empty = true)
    (hdC_Windows : PySem.W.hasDictIn K C_Windows = true)
    (poC_Windows : PySem.W.plainOver K C_Windows = true)
    (saC_Windows : PySem.W.findIn K (.ref C_Windows) "__setattr__" = some (some (.builtin "object.__setattr__")))
    (mkC_Windows : PySem.W.makesIn K C_Windows = true)
    (kcC_Windows : PySem.W.keepIn K (.ref C_Windows) = true)
    (aC_Counts : PySem.W.nsIn K mainGlobals "Counts" = some (some (.ref C_Counts)))
    (pgC_Counts : PySem.W.plainGet K C_Counts Str.empty = true)
    (hdC_Counts : PySem.W.hasDictIn K C_Counts = true)
    (poC_Counts : PySem.W.plainOver K C_Counts = true)
    (saC_Counts : PySem.W.findIn K (.ref C_Counts) "__setattr__" = some (some (.builtin "object.__setattr__")))
    (mkC_Counts : PySem.W.makesIn K C_Counts = true)
    (kcC_Counts : PySem.W.keepIn K (.ref C_Counts) = true)
    (a_law_at : PySem.W.nsIn K mainGlobals "_law_at" = some (some (.ref f_law_at)))
    (l_law_at : K.lookup f_law_at = some ⟨oc_law_at, od_law_at, .func (PySem.W.fnOf "_law_at" "_law_at" (defArgs st_law_at) (defBody st_law_at) (defScope st_law_at) .none kV_law_at dc_law_at pm_law_at an_law_at cd_law_at ct_law_at), sl_law_at⟩)
    (c_law_at : PySem.W.codeIn K cd_law_at "_law_at" = true)
    (k_law_at : PySem.W.keepIn K (.ref f_law_at) = true)
    (a_law_mixed : PySem.W.nsIn K mainGlobals "_law_mixed" = some (some (.ref f_law_mixed)))
    (l_law_mixed : K.lookup f_law_mixed = some ⟨oc_law_mixed, od_law_mixed, .func (PySem.W.fnOf "_law_mixed" "_law_mixed" (defArgs st_law_mixed) (defBody st_law_mixed) (defScope st_law_mixed) .none kV_law_mixed dc_law_mixed pm_law_mixed an_law_mixed cd_law_mixed ct_law_mixed), sl_law_mixed⟩)
    (c_law_mixed : PySem.W.codeIn K cd_law_mixed "_law_mixed" = true)
    (k_law_mixed : PySem.W.keepIn K (.ref f_law_mixed) = true)
    (a_law_row : PySem.W.nsIn K mainGlobals "_law_row" = some (some (.ref f_law_row)))
    (l_law_row : K.lookup f_law_row = some ⟨oc_law_row, od_law_row, .func (PySem.W.fnOf "_law_row" "_law_row" (defArgs st_law_row) (defBody st_law_row) (defScope st_law_row) .none kV_law_row dc_law_row pm_law_row an_law_row cd_law_row ct_law_row), sl_law_row⟩)
    (c_law_row : PySem.W.codeIn K cd_law_row "_law_row" = true)
    (k_law_row : PySem.W.keepIn K (.ref f_law_row) = true)
    (a_law_bounds : PySem.W.nsIn K mainGlobals "_law_bounds" = some (some (.ref f_law_bounds)))
    (l_law_bounds : K.lookup f_law_bounds = some ⟨oc_law_bounds, od_law_bounds, .func (PySem.W.fnOf "_law_bounds" "_law_bounds" (defArgs st_law_bounds) (defBody st_law_bounds) (defScope st_law_bounds) .none kV_law_bounds dc_law_bounds pm_law_bounds an_law_bounds cd_law_bounds ct_law_bounds), sl_law_bounds⟩)
    (c_law_bounds : PySem.W.codeIn K cd_law_bounds "_law_bounds" = true)
    (k_law_bounds : PySem.W.keepIn K (.ref f_law_bounds) = true)
    (a_law_moves : PySem.W.nsIn K mainGlobals "_law_moves" = some (some (.ref f_law_moves)))
    (l_law_moves : K.lookup f_law_moves = some ⟨oc_law_moves, od_law_moves, .func (PySem.W.fnOf "_law_moves" "_law_moves" (defArgs st_law_moves) (defBody st_law_moves) (defScope st_law_moves) .none kV_law_moves dc_law_moves pm_law_moves an_law_moves cd_law_moves ct_law_moves), sl_law_moves⟩)
    (c_law_moves : PySem.W.codeIn K cd_law_moves "_law_moves" = true)
    (k_law_moves : PySem.W.keepIn K (.ref f_law_moves) = true)
    (a_law_parted : PySem.W.nsIn K mainGlobals "_law_parted" = some (some (.ref f_law_parted)))
    (l_law_parted : K.lookup f_law_parted = some ⟨oc_law_parted, od_law_parted, .func (PySem.W.fnOf "_law_parted" "_law_parted" (defArgs st_law_parted) (defBody st_law_parted) (defScope st_law_parted) .none kV_law_parted dc_law_parted pm_law_parted an_law_parted cd_law_parted ct_law_parted), sl_law_parted⟩)
    (c_law_parted : PySem.W.codeIn K cd_law_parted "_law_parted" = true)
    (k_law_parted : PySem.W.keepIn K (.ref f_law_parted) = true)
    (a_law_moved : PySem.W.nsIn K mainGlobals "_law_moved" = some (some (.ref f_law_moved)))
    (l_law_moved : K.lookup f_law_moved = some ⟨oc_law_moved, od_law_moved, .func (PySem.W.fnOf "_law_moved" "_law_moved" (defArgs st_law_moved) (defBody st_law_moved) (defScope st_law_moved) .none kV_law_moved dc_law_moved pm_law_moved an_law_moved cd_law_moved ct_law_moved), sl_law_moved⟩)
    (c_law_moved : PySem.W.codeIn K cd_law_moved "_law_moved" = true)
    (k_law_moved : PySem.W.keepIn K (.ref f_law_moved) = true)
    (a_is_whole : PySem.W.nsIn K mainGlobals "is_whole" = some (some (.ref f_is_whole)))
    (l_is_whole : K.lookup f_is_whole = some ⟨oc_is_whole, od_is_whole, .func (PySem.W.fnOf "is_whole" "is_whole" (defArgs st_is_whole) (defBody st_is_whole) (defScope st_is_whole) .none kV_is_whole dc_is_whole pm_is_whole an_is_whole cd_is_whole ct_is_whole), sl_is_whole⟩)
    (c_is_whole : PySem.W.codeIn K cd_is_whole "is_whole" = true)
    (k_is_whole : PySem.W.keepIn K (.ref f_is_whole) = true)
    (a_is_size : PySem.W.nsIn K mainGlobals "is_size" = some (some (.ref f_is_size)))
    (l_is_size : K.lookup f_is_size = some ⟨oc_is_size, od_is_size, .func (PySem.W.fnOf "is_size" "is_size" (defArgs st_is_size) (defBody st_is_size) (defScope st_is_size) .none kV_is_size dc_is_size pm_is_size an_is_size cd_is_size ct_is_size), sl_is_size⟩)
    (c_is_size : PySem.W.codeIn K cd_is_size "is_size" = true)
    (k_is_size : PySem.W.keepIn K (.ref f_is_size) = true)
    (a_is_number : PySem.W.nsIn K mainGlobals "is_number" = some (some (.ref f_is_number)))
    (l_is_number : K.lookup f_is_number = some ⟨oc_is_number, od_is_number, .func (PySem.W.fnOf "is_number" "is_number" (defArgs st_is_number) (defBody st_is_number) (defScope st_is_number) .none kV_is_number dc_is_number pm_is_number an_is_number cd_is_number ct_is_number), sl_is_number⟩)
    (c_is_number : PySem.W.codeIn K cd_is_number "is_number" = true)
    (k_is_number : PySem.W.keepIn K (.ref f_is_number) = true)
    (a_is_row : PySem.W.nsIn K mainGlobals "is_row" = some (some (.ref f_is_row)))
    (l_is_row : K.lookup f_is_row = some ⟨oc_is_row, od_is_row, .func (PySem.W.fnOf "is_row" "is_row" (defArgs st_is_row) (defBody st_is_row) (defScope st_is_row) .none kV_is_row dc_is_row pm_is_row an_is_row cd_is_row ct_is_row), sl_is_row⟩)
    (c_is_row : PySem.W.codeIn K cd_is_row "is_row" = true)
    (k_is_row : PySem.W.keepIn K (.ref f_is_row) = true)
    (a_depths_of : PySem.W.nsIn K mainGlobals "depths_of" = some (some (.ref f_depths_of)))
    (l_depths_of : K.lookup f_depths_of = some ⟨oc_depths_of, od_depths_of, .func (PySem.W.fnOf "depths_of" "depths_of" (defArgs st_depths_of) (defBody st_depths_of) (defScope st_depths_of) .none kV_depths_of dc_depths_of pm_depths_of an_depths_of cd_depths_of ct_depths_of), sl_depths_of⟩)
    (c_depths_of : PySem.W.codeIn K cd_depths_of "depths_of" = true)
    (k_depths_of : PySem.W.keepIn K (.ref f_depths_of) = true)
    (a_is_telling : PySem.W.nsIn K mainGlobals "is_telling" = some (some (.ref f_is_telling)))
    (l_is_telling : K.lookup f_is_telling = some ⟨oc_is_telling, od_is_telling, .func (PySem.W.fnOf "is_telling" "is_telling" (defArgs st_is_telling) (defBody st_is_telling) (defScope st_is_telling) .none kV_is_telling dc_is_telling pm_is_telling an_is_telling cd_is_telling ct_is_telling), sl_is_telling⟩)
    (c_is_telling : PySem.W.codeIn K cd_is_telling "is_telling" = true)
    (k_is_telling : PySem.W.keepIn K (.ref f_is_telling) = true)
    (a_Rows_init : PySem.W.findIn K (.ref C_Rows) "__init__" = some (some (.ref f_Rows_init)))
    (i_Rows_init : PySem.W.isFn K (.ref f_Rows_init) = true)
    (l_Rows_init : K.lookup f_Rows_init = some ⟨oc_Rows_init, od_Rows_init, .func (PySem.W.fnOf "__init__" "Rows.__init__" (defArgs st_Rows_init) (defBody st_Rows_init) (defScope st_Rows_init) .none kV_Rows_init dc_Rows_init pm_Rows_init an_Rows_init cd_Rows_init ct_Rows_init), sl_Rows_init⟩)
    (c_Rows_init : PySem.W.codeIn K cd_Rows_init "Rows.__init__" = true)
    (k_Rows_init : PySem.W.keepIn K (.ref f_Rows_init) = true)
    (a_Rows_number : PySem.W.findIn K (.ref C_Rows) "number" = some (some (.ref f_Rows_number)))
    (i_Rows_number : PySem.W.isFn K (.ref f_Rows_number) = true)
    (l_Rows_number : K.lookup f_Rows_number = some ⟨oc_Rows_number, od_Rows_number, .func (PySem.W.fnOf "number" "Rows.number" (defArgs st_Rows_number) (defBody st_Rows_number) (defScope st_Rows_number) .none kV_Rows_number dc_Rows_number pm_Rows_number an_Rows_number cd_Rows_number ct_Rows_number), sl_Rows_number⟩)
    (c_Rows_number : PySem.W.codeIn K cd_Rows_number "Rows.number" = true)
    (k_Rows_number : PySem.W.keepIn K (.ref f_Rows_number) = true)
    (a_Rows_take : PySem.W.findIn K (.ref C_Rows) "take" = some (some (.ref f_Rows_take)))
    (i_Rows_take : PySem.W.isFn K (.ref f_Rows_take) = true)
    (l_Rows_take : K.lookup f_Rows_take = some ⟨oc_Rows_take, od_Rows_take, .func (PySem.W.fnOf "take" "Rows.take" (defArgs st_Rows_take) (defBody st_Rows_take) (defScope st_Rows_take) .none kV_Rows_take dc_Rows_take pm_Rows_take an_Rows_take cd_Rows_take ct_Rows_take), sl_Rows_take⟩)
    (c_Rows_take : PySem.W.codeIn K cd_Rows_take "Rows.take" = true)
    (k_Rows_take : PySem.W.keepIn K (.ref f_Rows_take) = true)
    (a_Rows_quarters : PySem.W.findIn K (.ref C_Rows) "quarters" = some (some (.ref f_Rows_quarters)))
    (i_Rows_quarters : PySem.W.isFn K (.ref f_Rows_quarters) = true)
    (l_Rows_quarters : K.lookup f_Rows_quarters = some ⟨oc_Rows_quarters, od_Rows_quarters, .func (PySem.W.fnOf "quarters" "Rows.quarters" (defArgs st_Rows_quarters) (defBody st_Rows_quarters) (defScope st_Rows_quarters) .none kV_Rows_quarters dc_Rows_quarters pm_Rows_quarters an_Rows_quarters cd_Rows_quarters ct_Rows_quarters), sl_Rows_quarters⟩)
    (c_Rows_quarters : PySem.W.codeIn K cd_Rows_quarters "Rows.quarters" = true)
    (k_Rows_quarters : PySem.W.keepIn K (.ref f_Rows_quarters) = true)
    (a_Rows_order : PySem.W.findIn K (.ref C_Rows) "order" = some (some (.ref f_Rows_order)))
    (i_Rows_order : PySem.W.isFn K (.ref f_Rows_order) = true)
    (l_Rows_order : K.lookup f_Rows_order = some ⟨oc_Rows_order, od_Rows_order, .func (PySem.W.fnOf "order" "Rows.order" (defArgs st_Rows_order) (defBody st_Rows_order) (defScope st_Rows_order) .none kV_Rows_order dc_Rows_order pm_Rows_order an_Rows_order cd_Rows_order ct_Rows_order), sl_Rows_order⟩)
    (c_Rows_order : PySem.W.codeIn K cd_Rows_order "Rows.order" = true)
    (k_Rows_order : PySem.W.keepIn K (.ref f_Rows_order) = true)
    (a_Rows_shape : PySem.W.findIn K (.ref C_Rows) "shape" = some (some (.ref f_Rows_shape)))
    (i_Rows_shape : PySem.W.isFn K (.ref f_Rows_shape) = true)
    (l_Rows_shape : K.lookup f_Rows_shape = some ⟨oc_Rows_shape, od_Rows_shape, .func (PySem.W.fnOf "shape" "Rows.shape" (defArgs st_Rows_shape) (defBody st_Rows_shape) (defScope st_Rows_shape) .none kV_Rows_shape dc_Rows_shape pm_Rows_shape an_Rows_shape cd_Rows_shape ct_Rows_shape), sl_Rows_shape⟩)
    (c_Rows_shape : PySem.W.codeIn K cd_Rows_shape "Rows.shape" = true)
    (k_Rows_shape : PySem.W.keepIn K (.ref f_Rows_shape) = true)
    (a_one_of : PySem.W.nsIn K mainGlobals "one_of" = some (some (.ref f_one_of)))
    (l_one_of : K.lookup f_one_of = some ⟨oc_one_of, od_one_of, .func (PySem.W.fnOf "one_of" "one_of" (defArgs st_one_of) (defBody st_one_of) (defScope st_one_of) .none kV_one_of dc_one_of pm_one_of an_one_of cd_one_of ct_one_of), sl_one_of⟩)
    (c_one_of : PySem.W.codeIn K cd_one_of "one_of" = true)
    (k_one_of : PySem.W.keepIn K (.ref f_one_of) = true)
    (a_is_shape : PySem.W.nsIn K mainGlobals "is_shape" = some (some (.ref f_is_shape)))
    (l_is_shape : K.lookup f_is_shape = some ⟨oc_is_shape, od_is_shape, .func (PySem.W.fnOf "is_shape" "is_shape" (defArgs st_is_shape) (defBody st_is_shape) (defScope st_is_shape) .none kV_is_shape dc_is_shape pm_is_shape an_is_shape cd_is_shape ct_is_shape), sl_is_shape⟩)
    (c_is_shape : PySem.W.codeIn K cd_is_shape "is_shape" = true)
    (k_is_shape : PySem.W.keepIn K (.ref f_is_shape) = true)
    (a_want_shape : PySem.W.nsIn K mainGlobals "want_shape" = some (some (.ref f_want_shape)))
    (l_want_shape : K.lookup f_want_shape = some ⟨oc_want_shape, od_want_shape, .func (PySem.W.fnOf "want_shape" "want_shape" (defArgs st_want_shape) (defBody st_want_shape) (defScope st_want_shape) .none kV_want_shape dc_want_shape pm_want_shape an_want_shape cd_want_shape ct_want_shape), sl_want_shape⟩)
    (c_want_shape : PySem.W.codeIn K cd_want_shape "want_shape" = true)
    (k_want_shape : PySem.W.keepIn K (.ref f_want_shape) = true)
    (a_paint : PySem.W.nsIn K mainGlobals "paint" = some (some (.ref f_paint)))
    (l_paint : K.lookup f_paint = some ⟨oc_paint, od_paint, .func (PySem.W.fnOf "paint" "paint" (defArgs st_paint) (defBody st_paint) (defScope st_paint) .none kV_paint dc_paint pm_paint an_paint cd_paint ct_paint), sl_paint⟩)
    (c_paint : PySem.W.codeIn K cd_paint "paint" = true)
    (k_paint : PySem.W.keepIn K (.ref f_paint) = true)
    (a_Windows_init : PySem.W.findIn K (.ref C_Windows) "__init__" = some (some (.ref f_Windows_init)))
    (i_Windows_init : PySem.W.isFn K (.ref f_Windows_init) = true)
    (l_Windows_init : K.lookup f_Windows_init = some ⟨oc_Windows_init, od_Windows_init, .func (PySem.W.fnOf "__init__" "Windows.__init__" (defArgs st_Windows_init) (defBody st_Windows_init) (defScope st_Windows_init) .none kV_Windows_init dc_Windows_init pm_Windows_init an_Windows_init cd_Windows_init ct_Windows_init), sl_Windows_init⟩)
    (c_Windows_init : PySem.W.codeIn K cd_Windows_init "Windows.__init__" = true)
    (k_Windows_init : PySem.W.keepIn K (.ref f_Windows_init) = true)
    (a_cell_windows : PySem.W.nsIn K mainGlobals "cell_windows" = some (some (.ref f_cell_windows)))
    (l_cell_windows : K.lookup f_cell_windows = some ⟨oc_cell_windows, od_cell_windows, .func (PySem.W.fnOf "cell_windows" "cell_windows" (defArgs st_cell_windows) (defBody st_cell_windows) (defScope st_cell_windows) .none kV_cell_windows dc_cell_windows pm_cell_windows an_cell_windows cd_cell_windows ct_cell_windows), sl_cell_windows⟩)
    (c_cell_windows : PySem.W.codeIn K cd_cell_windows "cell_windows" = true)
    (k_cell_windows : PySem.W.keepIn K (.ref f_cell_windows) = true)
    (a_one_look : PySem.W.nsIn K mainGlobals "one_look" = some (some (.ref f_one_look)))
    (l_one_look : K.lookup f_one_look = some ⟨oc_one_look, od_one_look, .func (PySem.W.fnOf "one_look" "one_look" (defArgs st_one_look) (defBody st_one_look) (defScope st_one_look) .none kV_one_look dc_one_look pm_one_look an_one_look cd_one_look ct_one_look), sl_one_look⟩)
    (c_one_look : PySem.W.codeIn K cd_one_look "one_look" = true)
    (k_one_look : PySem.W.keepIn K (.ref f_one_look) = true)
    (a_Windows_far : PySem.W.findIn K (.ref C_Windows) "far" = some (some (.ref f_Windows_far)))
    (i_Windows_far : PySem.W.isFn K (.ref f_Windows_far) = true)
    (l_Windows_far : K.lookup f_Windows_far = some ⟨oc_Windows_far, od_Windows_far, .func (PySem.W.fnOf "far" "Windows.far" (defArgs st_Windows_far) (defBody st_Windows_far) (defScope st_Windows_far) .none kV_Windows_far dc_Windows_far pm_Windows_far an_Windows_far cd_Windows_far ct_Windows_far), sl_Windows_far⟩)
    (c_Windows_far : PySem.W.codeIn K cd_Windows_far "Windows.far" = true)
    (k_Windows_far : PySem.W.keepIn K (.ref f_Windows_far) = true)
    (a_Windows_look : PySem.W.findIn K (.ref C_Windows) "look" = some (some (.ref f_Windows_look)))
    (i_Windows_look : PySem.W.isFn K (.ref f_Windows_look) = true)
    (l_Windows_look : K.lookup f_Windows_look = some ⟨oc_Windows_look, od_Windows_look, .func (PySem.W.fnOf "look" "Windows.look" (defArgs st_Windows_look) (defBody st_Windows_look) (defScope st_Windows_look) .none kV_Windows_look dc_Windows_look pm_Windows_look an_Windows_look cd_Windows_look ct_Windows_look), sl_Windows_look⟩)
    (c_Windows_look : PySem.W.codeIn K cd_Windows_look "Windows.look" = true)
    (k_Windows_look : PySem.W.keepIn K (.ref f_Windows_look) = true)
    (a_greater : PySem.W.nsIn K mainGlobals "greater" = some (some (.ref f_greater)))
    (l_greater : K.lookup f_greater = some ⟨oc_greater, od_greater, .func (PySem.W.fnOf "greater" "greater" (defArgs st_greater) (defBody st_greater) (defScope st_greater) .none kV_greater dc_greater pm_greater an_greater cd_greater ct_greater), sl_greater⟩)
    (c_greater : PySem.W.codeIn K cd_greater "greater" = true)
    (k_greater : PySem.W.keepIn K (.ref f_greater) = true)
    (a_mixed_by_remainder : PySem.W.nsIn K mainGlobals "mixed_by_remainder" = some (some (.ref f_mixed_by_remainder)))
    (l_mixed_by_remainder : K.lookup f_mixed_by_remainder = some ⟨oc_mixed_by_remainder, od_mixed_by_remainder, .func (PySem.W.fnOf "mixed_by_remainder" "mixed_by_remainder" (defArgs st_mixed_by_remainder) (defBody st_mixed_by_remainder) (defScope st_mixed_by_remainder) .none kV_mixed_by_remainder dc_mixed_by_remainder pm_mixed_by_remainder an_mixed_by_remainder cd_mixed_by_remainder ct_mixed_by_remainder), sl_mixed_by_remainder⟩)
    (c_mixed_by_remainder : PySem.W.codeIn K cd_mixed_by_remainder "mixed_by_remainder" = true)
    (k_mixed_by_remainder : PySem.W.keepIn K (.ref f_mixed_by_remainder) = true)
    (a_all_mixed : PySem.W.nsIn K mainGlobals "all_mixed" = some (some (.ref f_all_mixed)))
    (l_all_mixed : K.lookup f_all_mixed = some ⟨oc_all_mixed, od_all_mixed, .func (PySem.W.fnOf "all_mixed" "all_mixed" (defArgs st_all_mixed) (defBody st_all_mixed) (defScope st_all_mixed) .none kV_all_mixed dc_all_mixed pm_all_mixed an_all_mixed cd_all_mixed ct_all_mixed), sl_all_mixed⟩)
    (c_all_mixed : PySem.W.codeIn K cd_all_mixed "all_mixed" = true)
    (k_all_mixed : PySem.W.keepIn K (.ref f_all_mixed) = true)
    (a_Counts_init : PySem.W.findIn K (.ref C_Counts) "__init__" = some (some (.ref f_Counts_init)))
    (i_Counts_init : PySem.W.isFn K (.ref f_Counts_init) = true)
    (l_Counts_init : K.lookup f_Counts_init = some ⟨oc_Counts_init, od_Counts_init, .func (PySem.W.fnOf "__init__" "Counts.__init__" (defArgs st_Counts_init) (defBody st_Counts_init) (defScope st_Counts_init) .none kV_Counts_init dc_Counts_init pm_Counts_init an_Counts_init cd_Counts_init ct_Counts_init), sl_Counts_init⟩)
    (c_Counts_init : PySem.W.codeIn K cd_Counts_init "Counts.__init__" = true)
    (k_Counts_init : PySem.W.keepIn K (.ref f_Counts_init) = true)
    (a_Counts_quarters : PySem.W.findIn K (.ref C_Counts) "quarters" = some (some (.ref f_Counts_quarters)))
    (i_Counts_quarters : PySem.W.isFn K (.ref f_Counts_quarters) = true)
    (l_Counts_quarters : K.lookup f_Counts_quarters = some ⟨oc_Counts_quarters, od_Counts_quarters, .func (PySem.W.fnOf "quarters" "Counts.quarters" (defArgs st_Counts_quarters) (defBody st_Counts_quarters) (defScope st_Counts_quarters) .none kV_Counts_quarters dc_Counts_quarters pm_Counts_quarters an_Counts_quarters cd_Counts_quarters ct_Counts_quarters), sl_Counts_quarters⟩)
    (c_Counts_quarters : PySem.W.codeIn K cd_Counts_quarters "Counts.quarters" = true)
    (k_Counts_quarters : PySem.W.keepIn K (.ref f_Counts_quarters) = true)
    (a_Counts_ends_of_quarters : PySem.W.findIn K (.ref C_Counts) "ends_of_quarters" = some (some (.ref f_Counts_ends_of_quarters)))
    (i_Counts_ends_of_quarters : PySem.W.isFn K (.ref f_Counts_ends_of_quarters) = true)
    (l_Counts_ends_of_quarters : K.lookup f_Counts_ends_of_quarters = some ⟨oc_Counts_ends_of_quarters, od_Counts_ends_of_quarters, .func (PySem.W.fnOf "ends_of_quarters" "Counts.ends_of_quarters" (defArgs st_Counts_ends_of_quarters) (defBody st_Counts_ends_of_quarters) (defScope st_Counts_ends_of_quarters) .none kV_Counts_ends_of_quarters dc_Counts_ends_of_quarters pm_Counts_ends_of_quarters an_Counts_ends_of_quarters cd_Counts_ends_of_quarters ct_Counts_ends_of_quarters), sl_Counts_ends_of_quarters⟩)
    (c_Counts_ends_of_quarters : PySem.W.codeIn K cd_Counts_ends_of_quarters "Counts.ends_of_quarters" = true)
    (k_Counts_ends_of_quarters : PySem.W.keepIn K (.ref f_Counts_ends_of_quarters) = true)
    (a_Counts_ends_in : PySem.W.findIn K (.ref C_Counts) "ends_in" = some (some (.ref f_Counts_ends_in)))
    (i_Counts_ends_in : PySem.W.isFn K (.ref f_Counts_ends_in) = true)
    (l_Counts_ends_in : K.lookup f_Counts_ends_in = some ⟨oc_Counts_ends_in, od_Counts_ends_in, .func (PySem.W.fnOf "ends_in" "Counts.ends_in" (defArgs st_Counts_ends_in) (defBody st_Counts_ends_in) (defScope st_Counts_ends_in) .none kV_Counts_ends_in dc_Counts_ends_in pm_Counts_ends_in an_Counts_ends_in cd_Counts_ends_in ct_Counts_ends_in), sl_Counts_ends_in⟩)
    (c_Counts_ends_in : PySem.W.codeIn K cd_Counts_ends_in "Counts.ends_in" = true)
    (k_Counts_ends_in : PySem.W.keepIn K (.ref f_Counts_ends_in) = true)
    (a_bounds : PySem.W.nsIn K mainGlobals "bounds" = some (some (.ref f_bounds)))
    (l_bounds : K.lookup f_bounds = some ⟨oc_bounds, od_bounds, .func (PySem.W.fnOf "bounds" "bounds" (defArgs st_bounds) (defBody st_bounds) (defScope st_bounds) .none kV_bounds dc_bounds pm_bounds an_bounds cd_bounds ct_bounds), sl_bounds⟩)
    (c_bounds : PySem.W.codeIn K cd_bounds "bounds" = true)
    (k_bounds : PySem.W.keepIn K (.ref f_bounds) = true)
    (a_moves_of : PySem.W.nsIn K mainGlobals "moves_of" = some (some (.ref f_moves_of)))
    (l_moves_of : K.lookup f_moves_of = some ⟨oc_moves_of, od_moves_of, .func (PySem.W.fnOf "moves_of" "moves_of" (defArgs st_moves_of) (defBody st_moves_of) (defScope st_moves_of) .none kV_moves_of dc_moves_of pm_moves_of an_moves_of cd_moves_of ct_moves_of), sl_moves_of⟩)
    (c_moves_of : PySem.W.codeIn K cd_moves_of "moves_of" = true)
    (k_moves_of : PySem.W.keepIn K (.ref f_moves_of) = true)
    (a_leaves_behind : PySem.W.nsIn K mainGlobals "leaves_behind" = some (some (.ref f_leaves_behind)))
    (l_leaves_behind : K.lookup f_leaves_behind = some ⟨oc_leaves_behind, od_leaves_behind, .func (PySem.W.fnOf "leaves_behind" "leaves_behind" (defArgs st_leaves_behind) (defBody st_leaves_behind) (defScope st_leaves_behind) .none kV_leaves_behind dc_leaves_behind pm_leaves_behind an_leaves_behind cd_leaves_behind ct_leaves_behind), sl_leaves_behind⟩)
    (c_leaves_behind : PySem.W.codeIn K cd_leaves_behind "leaves_behind" = true)
    (k_leaves_behind : PySem.W.keepIn K (.ref f_leaves_behind) = true)
    (a_fewest : PySem.W.nsIn K mainGlobals "fewest" = some (some (.ref f_fewest)))
    (l_fewest : K.lookup f_fewest = some ⟨oc_fewest, od_fewest, .func (PySem.W.fnOf "fewest" "fewest" (defArgs st_fewest) (defBody st_fewest) (defScope st_fewest) .none kV_fewest dc_fewest pm_fewest an_fewest cd_fewest ct_fewest), sl_fewest⟩)
    (c_fewest : PySem.W.codeIn K cd_fewest "fewest" = true)
    (k_fewest : PySem.W.keepIn K (.ref f_fewest) = true)
    (a_law_number : PySem.W.nsIn K mainGlobals "_law_number" = some (some (.ref f_law_number)))
    (l_law_number : K.lookup f_law_number = some ⟨oc_law_number, od_law_number, .func (PySem.W.fnOf "_law_number" "_law_number" (defArgs st_law_number) (defBody st_law_number) (defScope st_law_number) .none kV_law_number dc_law_number pm_law_number an_law_number cd_law_number ct_law_number), sl_law_number⟩)
    (c_law_number : PySem.W.codeIn K cd_law_number "_law_number" = true)
    (k_law_number : PySem.W.keepIn K (.ref f_law_number) = true)
    (a_law_shape : PySem.W.nsIn K mainGlobals "_law_shape" = some (some (.ref f_law_shape)))
    (l_law_shape : K.lookup f_law_shape = some ⟨oc_law_shape, od_law_shape, .func (PySem.W.fnOf "_law_shape" "_law_shape" (defArgs st_law_shape) (defBody st_law_shape) (defScope st_law_shape) .none kV_law_shape dc_law_shape pm_law_shape an_law_shape cd_law_shape ct_law_shape), sl_law_shape⟩)
    (c_law_shape : PySem.W.codeIn K cd_law_shape "_law_shape" = true)
    (k_law_shape : PySem.W.keepIn K (.ref f_law_shape) = true)
    (a_law_right : PySem.W.nsIn K mainGlobals "_law_right" = some (some (.ref f_law_right)))
    (l_law_right : K.lookup f_law_right = some ⟨oc_law_right, od_law_right, .func (PySem.W.fnOf "_law_right" "_law_right" (defArgs st_law_right) (defBody st_law_right) (defScope st_law_right) .none kV_law_right dc_law_right pm_law_right an_law_right cd_law_right ct_law_right), sl_law_right⟩)
    (c_law_right : PySem.W.codeIn K cd_law_right "_law_right" = true)
    (k_law_right : PySem.W.keepIn K (.ref f_law_right) = true)
    (a_law_boxed : PySem.W.nsIn K mainGlobals "_law_boxed" = some (some (.ref f_law_boxed)))
    (l_law_boxed : K.lookup f_law_boxed = some ⟨oc_law_boxed, od_law_boxed, .func (PySem.W.fnOf "_law_boxed" "_law_boxed" (defArgs st_law_boxed) (defBody st_law_boxed) (defScope st_law_boxed) .none kV_law_boxed dc_law_boxed pm_law_boxed an_law_boxed cd_law_boxed ct_law_boxed), sl_law_boxed⟩)
    (c_law_boxed : PySem.W.codeIn K cd_law_boxed "_law_boxed" = true)
    (k_law_boxed : PySem.W.keepIn K (.ref f_law_boxed) = true)
    (a_law_boxes : PySem.W.nsIn K mainGlobals "_law_boxes" = some (some (.ref f_law_boxes)))
    (l_law_boxes : K.lookup f_law_boxes = some ⟨oc_law_boxes, od_law_boxes, .func (PySem.W.fnOf "_law_boxes" "_law_boxes" (defArgs st_law_boxes) (defBody st_law_boxes) (defScope st_law_boxes) .none kV_law_boxes dc_law_boxes pm_law_boxes an_law_boxes cd_law_boxes ct_law_boxes), sl_law_boxes⟩)
    (c_law_boxes : PySem.W.codeIn K cd_law_boxes "_law_boxes" = true)
    (k_law_boxes : PySem.W.keepIn K (.ref f_law_boxes) = true)
    (a_law_squares : PySem.W.nsIn K mainGlobals "_law_squares" = some (some (.ref f_law_squares)))
    (l_law_squares : K.lookup f_law_squares = some ⟨oc_law_squares, od_law_squares, .func (PySem.W.fnOf "_law_squares" "_law_squares" (defArgs st_law_squares) (defBody st_law_squares) (defScope st_law_squares) .none kV_law_squares dc_law_squares pm_law_squares an_law_squares cd_law_squares ct_law_squares), sl_law_squares⟩)
    (c_law_squares : PySem.W.codeIn K cd_law_squares "_law_squares" = true)
    (k_law_squares : PySem.W.keepIn K (.ref f_law_squares) = true)
    (a_law_cells : PySem.W.nsIn K mainGlobals "_law_cells" = some (some (.ref f_law_cells)))
    (l_law_cells : K.lookup f_law_cells = some ⟨oc_law_cells, od_law_cells, .func (PySem.W.fnOf "_law_cells" "_law_cells" (defArgs st_law_cells) (defBody st_law_cells) (defScope st_law_cells) .none kV_law_cells dc_law_cells pm_law_cells an_law_cells cd_law_cells ct_law_cells), sl_law_cells⟩)
    (c_law_cells : PySem.W.codeIn K cd_law_cells "_law_cells" = true)
    (k_law_cells : PySem.W.keepIn K (.ref f_law_cells) = true)
    (a_law : PySem.W.nsIn K mainGlobals "law" = some (some (.ref f_law)))
    (l_law : K.lookup f_law = some ⟨oc_law, od_law, .func (PySem.W.fnOf "law" "law" (defArgs st_law) (defBody st_law) (defScope st_law) .none kV_law dc_law pm_law an_law cd_law ct_law), sl_law⟩)
    (c_law : PySem.W.codeIn K cd_law "law" = true)
    (k_law : PySem.W.keepIn K (.ref f_law) = true)
    (z_all : PySem.W.nsIn K mainGlobals "all" = some none)
    (z_bool : PySem.W.nsIn K mainGlobals "bool" = some none)
    (z_enumerate : PySem.W.nsIn K mainGlobals "enumerate" = some none)
    (z_int : PySem.W.nsIn K mainGlobals "int" = some none)
    (z_isinstance : PySem.W.nsIn K mainGlobals "isinstance" = some none)
    (z_len : PySem.W.nsIn K mainGlobals "len" = some none)
    (z_max : PySem.W.nsIn K mainGlobals "max" = some none)
    (z_min : PySem.W.nsIn K mainGlobals "min" = some none)
    (z_range : PySem.W.nsIn K mainGlobals "range" = some none)
    (z_sorted : PySem.W.nsIn K mainGlobals "sorted" = some none)
    (z_sum : PySem.W.nsIn K mainGlobals "sum" = some none)
    (z_tuple : PySem.W.nsIn K mainGlobals "tuple" = some none)
    (g_MIXED : PySem.W.nsIn K mainGlobals "MIXED" = some (some (.int 2 t_MIXED)))
    (g_MOST_FEWEST : PySem.W.nsIn K mainGlobals "MOST_FEWEST" = some (some (.int 7 t_MOST_FEWEST)))
    (g_MOST_SIZE : PySem.W.nsIn K mainGlobals "MOST_SIZE" = some (some (.int 12 t_MOST_SIZE)))
    (n_Counts_ends : PySem.W.findIn K (.ref C_Counts) "ends" = some none)
    (n_Counts_leaves : PySem.W.findIn K (.ref C_Counts) "leaves" = some none)
    (n_Counts_parted : PySem.W.findIn K (.ref C_Counts) "parted" = some none)
    (n_Counts_rows : PySem.W.findIn K (.ref C_Counts) "rows" = some none)
    (n_Counts_sums : PySem.W.findIn K (.ref C_Counts) "sums" = some none)
    (n_Rows_numbers : PySem.W.findIn K (.ref C_Rows) "numbers" = some none)
    (n_Rows_rows : PySem.W.findIn K (.ref C_Rows) "rows" = some none)
    (n_Windows_looks : PySem.W.findIn K (.ref C_Windows) "looks" = some none)
    (n_Windows_size : PySem.W.findIn K (.ref C_Windows) "size" = some none)
    : ∃ fd : FuncData, (∀ (s : Shared) (v : Value), BindsTo s fd ⟨[v], []⟩ [("_law_script", v)]) ∧ ∀ base : Heap, K.In base → base.Ns mainGlobals mg → FnOk l.prog w K mg base CX0 32 fa fd ["_law_script"] (liftSp ⟨l.prog, w, K⟩ sp_law) := by
  have e := hfa.symm.trans (PySem.W.mg_of X G a_law)
  cases e
  have F_law_at := fun_mk (st := st_law_at) l_law_at c_law_at k_law_at
  have b_law_at := F_law_at.binds (ps := ["_law_script", "_law_k"]) fun _ _ _ _ _ _ us hl => match us, hl with | [_, _], _ => rfl
  have F_law_mixed := fun_mk (st := st_law_mixed) l_law_mixed c_law_mixed k_law_mixed
  have b_law_mixed := F_law_mixed.binds (ps := ["_law_number_here", "_law_k"]) fun _ _ _ _ _ _ us hl => match us, hl with | [_, _], _ => rfl
  have F_law_row := fun_mk (st := st_law_row) l_law_row c_law_row k_law_row
  have b_law_row := F_law_row.binds (ps := ["_law_script", "_law_k", "_law_many", "_law_base"]) fun _ _ _ _ _ _ us hl => match us, hl with | [_, _, _, _], _ => rfl
  have F_law_bounds := fun_mk (st := st_law_bounds) l_law_bounds c_law_bounds k_law_bounds
  have b_law_bounds := F_law_bounds.binds (ps := ["_law_cells_here"]) fun _ _ _ _ _ _ us hl => match us, hl with | [_], _ => rfl
  have F_law_moves := fun_mk (st := st_law_moves) l_law_moves c_law_moves k_law_moves
  have b_law_moves := F_law_moves.binds (ps := ["_law_cells_here", "_law_side"]) fun _ _ _ _ _ _ us hl => match us, hl with | [_, _], _ => rfl
  have F_law_parted := fun_mk (st := st_law_parted) l_law_parted c_law_parted k_law_parted
  have b_law_parted := F_law_parted.binds (ps := ["_law_cells_here", "_law_n"]) fun _ _ _ _ _ _ us hl => match us, hl with | [_, _], _ => rfl
  have F_law_moved := fun_mk (st := st_law_moved) l_law_moved c_law_moved k_law_moved
  have b_law_moved := F_law_moved.binds (ps := ["_law_cells_here", "_law_move"]) fun _ _ _ _ _ _ us hl => match us, hl with | [_, _], _ => rfl
  have F_is_whole := fun_mk (st := st_is_whole) l_is_whole c_is_whole k_is_whole
  have b_is_whole := F_is_whole.binds (ps := ["thing"]) fun _ _ _ _ _ _ us hl => match us, hl with | [_], _ => rfl
  have F_is_size := fun_mk (st := st_is_size) l_is_size c_is_size k_is_size
  have b_is_size := F_is_size.binds (ps := ["thing"]) fun _ _ _ _ _ _ us hl => match us, hl with | [_], _ => rfl
  have F_is_number := fun_mk (st := st_is_number) l_is_number c_is_number k_is_number
  have b_is_number := F_is_number.binds (ps := ["thing", "most"]) fun _ _ _ _ _ _ us hl => match us, hl with | [_, _], _ => rfl
  have F_is_row := fun_mk (st := st_is_row) l_is_row c_is_row k_is_row
  have b_is_row := F_is_row.binds (ps := ["thing", "place"]) fun _ _ _ _ _ _ us hl => match us, hl with | [_, _], _ => rfl
  have F_depths_of := fun_mk (st := st_depths_of) l_depths_of c_depths_of k_depths_of
  have b_depths_of := F_depths_of.binds (ps := ["rows"]) fun _ _ _ _ _ _ us hl => match us, hl with | [_], _ => rfl
  have F_is_telling := fun_mk (st := st_is_telling) l_is_telling c_is_telling k_is_telling
  have b_is_telling := F_is_telling.binds (ps := ["thing"]) fun _ _ _ _ _ _ us hl => match us, hl with | [_], _ => rfl
  have F_Rows_init := fun_mk (st := st_Rows_init) l_Rows_init c_Rows_init k_Rows_init
  have b_Rows_init := F_Rows_init.binds (ps := ["self"]) fun _ _ _ _ _ _ us hl => match us, hl with | [_], _ => rfl
  have F_Rows_number := fun_mk (st := st_Rows_number) l_Rows_number c_Rows_number k_Rows_number
  have b_Rows_number := F_Rows_number.binds (ps := ["self", "quarters"]) fun _ _ _ _ _ _ us hl => match us, hl with | [_, _], _ => rfl
  have F_Rows_take := fun_mk (st := st_Rows_take) l_Rows_take c_Rows_take k_Rows_take
  have b_Rows_take := F_Rows_take.binds (ps := ["self", "telling"]) fun _ _ _ _ _ _ us hl => match us, hl with | [_, _], _ => rfl
  have F_Rows_quarters := fun_mk (st := st_Rows_quarters) l_Rows_quarters c_Rows_quarters k_Rows_quarters
  have b_Rows_quarters := F_Rows_quarters.binds (ps := ["self", "number"]) fun _ _ _ _ _ _ us hl => match us, hl with | [_, _], _ => rfl
  have F_Rows_order := fun_mk (st := st_Rows_order) l_Rows_order c_Rows_order k_Rows_order
  have b_Rows_order := F_Rows_order.binds (ps := ["self", "number", "found"]) fun _ _ _ _ _ _ us hl => match us, hl with | [_, _, _], _ => rfl
  have F_Rows_shape := fun_mk (st := st_Rows_shape) l_Rows_shape c_Rows_shape k_Rows_shape
  have b_Rows_shape := F_Rows_shape.binds (ps := ["self", "n", "top"]) fun _ _ _ _ _ _ us hl => match us, hl with | [_, _, _], _ => rfl
  have F_one_of := fun_mk (st := st_one_of) l_one_of c_one_of k_one_of
  have b_one_of := F_one_of.binds (ps := ["telling"]) fun _ _ _ _ _ _ us hl => match us, hl with | [_], _ => rfl
  have F_is_shape := fun_mk (st := st_is_shape) l_is_shape c_is_shape k_is_shape
  have b_is_shape := F_is_shape.binds (ps := ["thing"]) fun _ _ _ _ _ _ us hl => match us, hl with | [_], _ => rfl
  have F_want_shape := fun_mk (st := st_want_shape) l_want_shape c_want_shape k_want_shape
  have b_want_shape := F_want_shape.binds (ps := ["thing"]) fun _ _ _ _ _ _ us hl => match us, hl with | [_], _ => rfl
  have F_paint := fun_mk (st := st_paint) l_paint c_paint k_paint
  have b_paint := F_paint.binds (ps := ["rows", "number", "box", "looks"]) fun _ _ _ _ _ _ us hl => match us, hl with | [_, _, _, _], _ => rfl
  have F_Windows_init := fun_mk (st := st_Windows_init) l_Windows_init c_Windows_init k_Windows_init
  have b_Windows_init := F_Windows_init.binds (ps := ["self", "size", "looks"]) fun _ _ _ _ _ _ us hl => match us, hl with | [_, _, _], _ => rfl
  have F_cell_windows := fun_mk (st := st_cell_windows) l_cell_windows c_cell_windows k_cell_windows
  have b_cell_windows := F_cell_windows.binds (ps := ["shape"]) fun _ _ _ _ _ _ us hl => match us, hl with | [_], _ => rfl
  have F_one_look := fun_mk (st := st_one_look) l_one_look c_one_look k_one_look
  have b_one_look := F_one_look.binds (ps := ["some"]) fun _ _ _ _ _ _ us hl => match us, hl with | [_], _ => rfl
  have F_Windows_far := fun_mk (st := st_Windows_far) l_Windows_far c_Windows_far k_Windows_far
  have b_Windows_far := F_Windows_far.binds (ps := ["self"]) fun _ _ _ _ _ _ us hl => match us, hl with | [_], _ => rfl
  have F_Windows_look := fun_mk (st := st_Windows_look) l_Windows_look c_Windows_look k_Windows_look
  have b_Windows_look := F_Windows_look.binds (ps := ["self", "row", "column"]) fun _ _ _ _ _ _ us hl => match us, hl with | [_, _, _], _ => rfl
  have F_greater := fun_mk (st := st_greater) l_greater c_greater k_greater
  have b_greater := F_greater.binds (ps := ["windows", "side"]) fun _ _ _ _ _ _ us hl => match us, hl with | [_, _], _ => rfl
  have F_mixed_by_remainder := fun_mk (st := st_mixed_by_remainder) l_mixed_by_remainder c_mixed_by_remainder k_mixed_by_remainder
  have b_mixed_by_remainder := F_mixed_by_remainder.binds (ps := ["windows"]) fun _ _ _ _ _ _ us hl => match us, hl with | [_], _ => rfl
  have F_all_mixed := fun_mk (st := st_all_mixed) l_all_mixed c_all_mixed k_all_mixed
  have b_all_mixed := F_all_mixed.binds (ps := ["shape"]) fun _ _ _ _ _ _ us hl => match us, hl with | [_], _ => rfl
  have F_Counts_init := fun_mk (st := st_Counts_init) l_Counts_init c_Counts_init k_Counts_init
  have b_Counts_init := F_Counts_init.binds (ps := ["self", "shape"]) fun _ _ _ _ _ _ us hl => match us, hl with | [_, _], _ => rfl
  have F_Counts_quarters := fun_mk (st := st_Counts_quarters) l_Counts_quarters c_Counts_quarters k_Counts_quarters
  have b_Counts_quarters := F_Counts_quarters.binds (ps := ["self", "number"]) fun _ _ _ _ _ _ us hl => match us, hl with | [_, _], _ => rfl
  have F_Counts_ends_of_quarters := fun_mk (st := st_Counts_ends_of_quarters) l_Counts_ends_of_quarters c_Counts_ends_of_quarters k_Counts_ends_of_quarters
  have b_Counts_ends_of_quarters := F_Counts_ends_of_quarters.binds (ps := ["self", "number", "size"]) fun _ _ _ _ _ _ us hl => match us, hl with | [_, _, _], _ => rfl
  have F_Counts_ends_in := fun_mk (st := st_Counts_ends_in) l_Counts_ends_in c_Counts_ends_in k_Counts_ends_in
  have b_Counts_ends_in := F_Counts_ends_in.binds (ps := ["self", "number", "size"]) fun _ _ _ _ _ _ us hl => match us, hl with | [_, _, _], _ => rfl
  have F_bounds := fun_mk (st := st_bounds) l_bounds c_bounds k_bounds
  have b_bounds := F_bounds.binds (ps := ["shape"]) fun _ _ _ _ _ _ us hl => match us, hl with | [_], _ => rfl
  have F_moves_of := fun_mk (st := st_moves_of) l_moves_of c_moves_of k_moves_of
  have b_moves_of := F_moves_of.binds (ps := ["shape"]) fun _ _ _ _ _ _ us hl => match us, hl with | [_], _ => rfl
  have F_leaves_behind := fun_mk (st := st_leaves_behind) l_leaves_behind c_leaves_behind k_leaves_behind
  have b_leaves_behind := F_leaves_behind.binds (ps := ["mixed", "down", "right"]) fun _ _ _ _ _ _ us hl => match us, hl with | [_, _, _], _ => rfl
  have F_fewest := fun_mk (st := st_fewest) l_fewest c_fewest k_fewest
  have b_fewest := F_fewest.binds (ps := ["shape"]) fun _ _ _ _ _ _ us hl => match us, hl with | [_], _ => rfl
  have F_law_number := fun_mk (st := st_law_number) l_law_number c_law_number k_law_number
  have b_law_number := F_law_number.binds (ps := ["_law_cells_here", "_law_rows", "_law_known", "_law_box"]) fun _ _ _ _ _ _ us hl => match us, hl with | [_, _, _, _], _ => rfl
  have F_law_shape := fun_mk (st := st_law_shape) l_law_shape c_law_shape k_law_shape
  have b_law_shape := F_law_shape.binds (ps := ["_law_n", "_law_cells_here"]) fun _ _ _ _ _ _ us hl => match us, hl with | [_, _], _ => rfl
  have F_law_right := fun_mk (st := st_law_right) l_law_right c_law_right k_law_right
  have b_law_right := F_law_right.binds (ps := ["_law_n", "_law_cells_here"]) fun _ _ _ _ _ _ us hl => match us, hl with | [_, _], _ => rfl
  have F_law_boxed := fun_mk (st := st_law_boxed) l_law_boxed c_law_boxed k_law_boxed
  have b_law_boxed := F_law_boxed.binds (ps := ["_law_boxes_here"]) fun _ _ _ _ _ _ us hl => match us, hl with | [_], _ => rfl
  have F_law_boxes := fun_mk (st := st_law_boxes) l_law_boxes c_law_boxes k_law_boxes
  have b_law_boxes := F_law_boxes.binds (ps := ["_law_script", "_law_k", "_law_side", "_law_many"]) fun _ _ _ _ _ _ us hl => match us, hl with | [_, _, _, _], _ => rfl
  have F_law_squares := fun_mk (st := st_law_squares) l_law_squares c_law_squares k_law_squares
  have b_law_squares := F_law_squares.binds (ps := ["_law_script", "_law_k", "_law_n", "_law_many"]) fun _ _ _ _ _ _ us hl => match us, hl with | [_, _, _, _], _ => rfl
  have F_law_cells := fun_mk (st := st_law_cells) l_law_cells c_law_cells k_law_cells
  have b_law_cells := F_law_cells.binds (ps := ["_law_script", "_law_k", "_law_n"]) fun _ _ _ _ _ _ us hl => match us, hl with | [_, _, _], _ => rfl
  have F_law := fun_mk (st := st_law) l_law c_law k_law
  have b_law := F_law.binds (ps := ["_law_script"]) fun _ _ _ _ _ _ us hl => match us, hl with | [_], _ => rfl
  let a : Ad := { C_Rows := C_Rows, C_Windows := C_Windows, C_Counts := C_Counts, f_law_at := f_law_at, d_law_at := PySem.W.fnOf "_law_at" "_law_at" (defArgs st_law_at) (defBody st_law_at) (defScope st_law_at) .none kV_law_at dc_law_at pm_law_at an_law_at cd_law_at ct_law_at, f_law_mixed := f_law_mixed, d_law_mixed := PySem.W.fnOf "_law_mixed" "_law_mixed" (defArgs st_law_mixed) (defBody st_law_mixed) (defScope st_law_mixed) .none kV_law_mixed dc_law_mixed pm_law_mixed an_law_mixed cd_law_mixed ct_law_mixed, f_law_row := f_law_row, d_law_row := PySem.W.fnOf "_law_row" "_law_row" (defArgs st_law_row) (defBody st_law_row) (defScope st_law_row) .none kV_law_row dc_law_row pm_law_row an_law_row cd_law_row ct_law_row, f_law_bounds := f_law_bounds, d_law_bounds := PySem.W.fnOf "_law_bounds" "_law_bounds" (defArgs st_law_bounds) (defBody st_law_bounds) (defScope st_law_bounds) .none kV_law_bounds dc_law_bounds pm_law_bounds an_law_bounds cd_law_bounds ct_law_bounds, f_law_moves := f_law_moves, d_law_moves := PySem.W.fnOf "_law_moves" "_law_moves" (defArgs st_law_moves) (defBody st_law_moves) (defScope st_law_moves) .none kV_law_moves dc_law_moves pm_law_moves an_law_moves cd_law_moves ct_law_moves, f_law_parted := f_law_parted, d_law_parted := PySem.W.fnOf "_law_parted" "_law_parted" (defArgs st_law_parted) (defBody st_law_parted) (defScope st_law_parted) .none kV_law_parted dc_law_parted pm_law_parted an_law_parted cd_law_parted ct_law_parted, f_law_moved := f_law_moved, d_law_moved := PySem.W.fnOf "_law_moved" "_law_moved" (defArgs st_law_moved) (defBody st_law_moved) (defScope st_law_moved) .none kV_law_moved dc_law_moved pm_law_moved an_law_moved cd_law_moved ct_law_moved, f_is_whole := f_is_whole, d_is_whole := PySem.W.fnOf "is_whole" "is_whole" (defArgs st_is_whole) (defBody st_is_whole) (defScope st_is_whole) .none kV_is_whole dc_is_whole pm_is_whole an_is_whole cd_is_whole ct_is_whole, f_is_size := f_is_size, d_is_size := PySem.W.fnOf "is_size" "is_size" (defArgs st_is_size) (defBody st_is_size) (defScope st_is_size) .none kV_is_size dc_is_size pm_is_size an_is_size cd_is_size ct_is_size, f_is_number := f_is_number, d_is_number := PySem.W.fnOf "is_number" "is_number" (defArgs st_is_number) (defBody st_is_number) (defScope st_is_number) .none kV_is_number dc_is_number pm_is_number an_is_number cd_is_number ct_is_number, f_is_row := f_is_row, d_is_row := PySem.W.fnOf "is_row" "is_row" (defArgs st_is_row) (defBody st_is_row) (defScope st_is_row) .none kV_is_row dc_is_row pm_is_row an_is_row cd_is_row ct_is_row, f_depths_of := f_depths_of, d_depths_of := PySem.W.fnOf "depths_of" "depths_of" (defArgs st_depths_of) (defBody st_depths_of) (defScope st_depths_of) .none kV_depths_of dc_depths_of pm_depths_of an_depths_of cd_depths_of ct_depths_of, f_is_telling := f_is_telling, d_is_telling := PySem.W.fnOf "is_telling" "is_telling" (defArgs st_is_telling) (defBody st_is_telling) (defScope st_is_telling) .none kV_is_telling dc_is_telling pm_is_telling an_is_telling cd_is_telling ct_is_telling, f_Rows_init := f_Rows_init, d_Rows_init := PySem.W.fnOf "__init__" "Rows.__init__" (defArgs st_Rows_init) (defBody st_Rows_init) (defScope st_Rows_init) .none kV_Rows_init dc_Rows_init pm_Rows_init an_Rows_init cd_Rows_init ct_Rows_init, f_Rows_number := f_Rows_number, d_Rows_number := PySem.W.fnOf "number" "Rows.number" (defArgs st_Rows_number) (defBody st_Rows_number) (defScope st_Rows_number) .none kV_Rows_number dc_Rows_number pm_Rows_number an_Rows_number cd_Rows_number ct_Rows_number, f_Rows_take := f_Rows_take, d_Rows_take := PySem.W.fnOf "take" "Rows.take" (defArgs st_Rows_take) (defBody st_Rows_take) (defScope st_Rows_take) .none kV_Rows_take dc_Rows_take pm_Rows_take an_Rows_take cd_Rows_take ct_Rows_take, f_Rows_quarters := f_Rows_quarters, d_Rows_quarters := PySem.W.fnOf "quarters" "Rows.quarters" (defArgs st_Rows_quarters) (defBody st_Rows_quarters) (defScope st_Rows_quarters) .none kV_Rows_quarters dc_Rows_quarters pm_Rows_quarters an_Rows_quarters cd_Rows_quarters ct_Rows_quarters, f_Rows_order := f_Rows_order, d_Rows_order := PySem.W.fnOf "order" "Rows.order" (defArgs st_Rows_order) (defBody st_Rows_order) (defScope st_Rows_order) .none kV_Rows_order dc_Rows_order pm_Rows_order an_Rows_order cd_Rows_order ct_Rows_order, f_Rows_shape := f_Rows_shape, d_Rows_shape := PySem.W.fnOf "shape" "Rows.shape" (defArgs st_Rows_shape) (defBody st_Rows_shape) (defScope st_Rows_shape) .none kV_Rows_shape dc_Rows_shape pm_Rows_shape an_Rows_shape cd_Rows_shape ct_Rows_shape, f_one_of := f_one_of, d_one_of := PySem.W.fnOf "one_of" "one_of" (defArgs st_one_of) (defBody st_one_of) (defScope st_one_of) .none kV_one_of dc_one_of pm_one_of an_one_of cd_one_of ct_one_of, f_is_shape := f_is_shape, d_is_shape := PySem.W.fnOf "is_shape" "is_shape" (defArgs st_is_shape) (defBody st_is_shape) (defScope st_is_shape) .none kV_is_shape dc_is_shape pm_is_shape an_is_shape cd_is_shape ct_is_shape, f_want_shape := f_want_shape, d_want_shape := PySem.W.fnOf "want_shape" "want_shape" (defArgs st_want_shape) (defBody st_want_shape) (defScope st_want_shape) .none kV_want_shape dc_want_shape pm_want_shape an_want_shape cd_want_shape ct_want_shape, f_paint := f_paint, d_paint := PySem.W.fnOf "paint" "paint" (defArgs st_paint) (defBody st_paint) (defScope st_paint) .none kV_paint dc_paint pm_paint an_paint cd_paint ct_paint, f_Windows_init := f_Windows_init, d_Windows_init := PySem.W.fnOf "__init__" "Windows.__init__" (defArgs st_Windows_init) (defBody st_Windows_init) (defScope st_Windows_init) .none kV_Windows_init dc_Windows_init pm_Windows_init an_Windows_init cd_Windows_init ct_Windows_init, f_cell_windows := f_cell_windows, d_cell_windows := PySem.W.fnOf "cell_windows" "cell_windows" (defArgs st_cell_windows) (defBody st_cell_windows) (defScope st_cell_windows) .none kV_cell_windows dc_cell_windows pm_cell_windows an_cell_windows cd_cell_windows ct_cell_windows, f_one_look := f_one_look, d_one_look := PySem.W.fnOf "one_look" "one_look" (defArgs st_one_look) (defBody st_one_look) (defScope st_one_look) .none kV_one_look dc_one_look pm_one_look an_one_look cd_one_look ct_one_look, f_Windows_far := f_Windows_far, d_Windows_far := PySem.W.fnOf "far" "Windows.far" (defArgs st_Windows_far) (defBody st_Windows_far) (defScope st_Windows_far) .none kV_Windows_far dc_Windows_far pm_Windows_far an_Windows_far cd_Windows_far ct_Windows_far, f_Windows_look := f_Windows_look, d_Windows_look := PySem.W.fnOf "look" "Windows.look" (defArgs st_Windows_look) (defBody st_Windows_look) (defScope st_Windows_look) .none kV_Windows_look dc_Windows_look pm_Windows_look an_Windows_look cd_Windows_look ct_Windows_look, f_greater := f_greater, d_greater := PySem.W.fnOf "greater" "greater" (defArgs st_greater) (defBody st_greater) (defScope st_greater) .none kV_greater dc_greater pm_greater an_greater cd_greater ct_greater, f_mixed_by_remainder := f_mixed_by_remainder, d_mixed_by_remainder := PySem.W.fnOf "mixed_by_remainder" "mixed_by_remainder" (defArgs st_mixed_by_remainder) (defBody st_mixed_by_remainder) (defScope st_mixed_by_remainder) .none kV_mixed_by_remainder dc_mixed_by_remainder pm_mixed_by_remainder an_mixed_by_remainder cd_mixed_by_remainder ct_mixed_by_remainder, f_all_mixed := f_all_mixed, d_all_mixed := PySem.W.fnOf "all_mixed" "all_mixed" (defArgs st_all_mixed) (defBody st_all_mixed) (defScope st_all_mixed) .none kV_all_mixed dc_all_mixed pm_all_mixed an_all_mixed cd_all_mixed ct_all_mixed, f_Counts_init := f_Counts_init, d_Counts_init := PySem.W.fnOf "__init__" "Counts.__init__" (defArgs st_Counts_init) (defBody st_Counts_init) (defScope st_Counts_init) .none kV_Counts_init dc_Counts_init pm_Counts_init an_Counts_init cd_Counts_init ct_Counts_init, f_Counts_quarters := f_Counts_quarters, d_Counts_quarters := PySem.W.fnOf "quarters" "Counts.quarters" (defArgs st_Counts_quarters) (defBody st_Counts_quarters) (defScope st_Counts_quarters) .none kV_Counts_quarters dc_Counts_quarters pm_Counts_quarters an_Counts_quarters cd_Counts_quarters ct_Counts_quarters, f_Counts_ends_of_quarters := f_Counts_ends_of_quarters, d_Counts_ends_of_quarters := PySem.W.fnOf "ends_of_quarters" "Counts.ends_of_quarters" (defArgs st_Counts_ends_of_quarters) (defBody st_Counts_ends_of_quarters) (defScope st_Counts_ends_of_quarters) .none kV_Counts_ends_of_quarters dc_Counts_ends_of_quarters pm_Counts_ends_of_quarters an_Counts_ends_of_quarters cd_Counts_ends_of_quarters ct_Counts_ends_of_quarters, f_Counts_ends_in := f_Counts_ends_in, d_Counts_ends_in := PySem.W.fnOf "ends_in" "Counts.ends_in" (defArgs st_Counts_ends_in) (defBody st_Counts_ends_in) (defScope st_Counts_ends_in) .none kV_Counts_ends_in dc_Counts_ends_in pm_Counts_ends_in an_Counts_ends_in cd_Counts_ends_in ct_Counts_ends_in, f_bounds := f_bounds, d_bounds := PySem.W.fnOf "bounds" "bounds" (defArgs st_bounds) (defBody st_bounds) (defScope st_bounds) .none kV_bounds dc_bounds pm_bounds an_bounds cd_bounds ct_bounds, f_moves_of := f_moves_of, d_moves_of := PySem.W.fnOf "moves_of" "moves_of" (defArgs st_moves_of) (defBody st_moves_of) (defScope st_moves_of) .none kV_moves_of dc_moves_of pm_moves_of an_moves_of cd_moves_of ct_moves_of, f_leaves_behind := f_leaves_behind, d_leaves_behind := PySem.W.fnOf "leaves_behind" "leaves_behind" (defArgs st_leaves_behind) (defBody st_leaves_behind) (defScope st_leaves_behind) .none kV_leaves_behind dc_leaves_behind pm_leaves_behind an_leaves_behind cd_leaves_behind ct_leaves_behind, f_fewest := f_fewest, d_fewest := PySem.W.fnOf "fewest" "fewest" (defArgs st_fewest) (defBody st_fewest) (defScope st_fewest) .none kV_fewest dc_fewest pm_fewest an_fewest cd_fewest ct_fewest, f_law_number := f_law_number, d_law_number := PySem.W.fnOf "_law_number" "_law_number" (defArgs st_law_number) (defBody st_law_number) (defScope st_law_number) .none kV_law_number dc_law_number pm_law_number an_law_number cd_law_number ct_law_number, f_law_shape := f_law_shape, d_law_shape := PySem.W.fnOf "_law_shape" "_law_shape" (defArgs st_law_shape) (defBody st_law_shape) (defScope st_law_shape) .none kV_law_shape dc_law_shape pm_law_shape an_law_shape cd_law_shape ct_law_shape, f_law_right := f_law_right, d_law_right := PySem.W.fnOf "_law_right" "_law_right" (defArgs st_law_right) (defBody st_law_right) (defScope st_law_right) .none kV_law_right dc_law_right pm_law_right an_law_right cd_law_right ct_law_right, f_law_boxed := f_law_boxed, d_law_boxed := PySem.W.fnOf "_law_boxed" "_law_boxed" (defArgs st_law_boxed) (defBody st_law_boxed) (defScope st_law_boxed) .none kV_law_boxed dc_law_boxed pm_law_boxed an_law_boxed cd_law_boxed ct_law_boxed, f_law_boxes := f_law_boxes, d_law_boxes := PySem.W.fnOf "_law_boxes" "_law_boxes" (defArgs st_law_boxes) (defBody st_law_boxes) (defScope st_law_boxes) .none kV_law_boxes dc_law_boxes pm_law_boxes an_law_boxes cd_law_boxes ct_law_boxes, f_law_squares := f_law_squares, d_law_squares := PySem.W.fnOf "_law_squares" "_law_squares" (defArgs st_law_squares) (defBody st_law_squares) (defScope st_law_squares) .none kV_law_squares dc_law_squares pm_law_squares an_law_squares cd_law_squares ct_law_squares, f_law_cells := f_law_cells, d_law_cells := PySem.W.fnOf "_law_cells" "_law_cells" (defArgs st_law_cells) (defBody st_law_cells) (defScope st_law_cells) .none kV_law_cells dc_law_cells pm_law_cells an_law_cells cd_law_cells ct_law_cells, f_law := fa, d_law := PySem.W.fnOf "law" "law" (defArgs st_law) (defBody st_law) (defScope st_law) .none kV_law dc_law pm_law an_law cd_law ct_law }
  have T : Txt K mg a := {
    c_Rows := ⟨pgC_Rows, hdC_Rows, poC_Rows, saC_Rows⟩
    c_Windows := ⟨pgC_Windows, hdC_Windows, poC_Windows, saC_Windows⟩
    c_Counts := ⟨pgC_Counts, hdC_Counts, poC_Counts, saC_Counts⟩
    b_all := PySem.W.mg_none_of X G z_all
    b_bool := PySem.W.mg_none_of X G z_bool
    b_enumerate := PySem.W.mg_none_of X G z_enumerate
    b_int := PySem.W.mg_none_of X G z_int
    b_isinstance := PySem.W.mg_none_of X G z_isinstance
    b_len := PySem.W.mg_none_of X G z_len
    b_max := PySem.W.mg_none_of X G z_max
    b_min := PySem.W.mg_none_of X G z_min
    b_range := PySem.W.mg_none_of X G z_range
    b_sorted := PySem.W.mg_none_of X G z_sorted
    b_sum := PySem.W.mg_none_of X G z_sum
    b_tuple := PySem.W.mg_none_of X G z_tuple
    g_MIXED := ⟨_, PySem.W.mg_of X G g_MIXED, _, rfl⟩
    g_MOST_FEWEST := ⟨_, PySem.W.mg_of X G g_MOST_FEWEST, _, rfl⟩
    g_MOST_SIZE := ⟨_, PySem.W.mg_of X G g_MOST_SIZE, _, rfl⟩
    mk_Counts := ⟨mkC_Counts, a_Counts_init, i_Counts_init, kcC_Counts⟩
    mc_Counts := PySem.W.mg_of X G aC_Counts
    mk_Rows := ⟨mkC_Rows, a_Rows_init, i_Rows_init, kcC_Rows⟩
    mc_Rows := PySem.W.mg_of X G aC_Rows
    mk_Windows := ⟨mkC_Windows, a_Windows_init, i_Windows_init, kcC_Windows⟩
    mc_Windows := PySem.W.mg_of X G aC_Windows
    n_Counts_ends := n_Counts_ends
    n_Counts_leaves := n_Counts_leaves
    n_Counts_parted := n_Counts_parted
    n_Counts_rows := n_Counts_rows
    n_Counts_sums := n_Counts_sums
    n_Rows_numbers := n_Rows_numbers
    n_Rows_rows := n_Rows_rows
    n_Windows_looks := n_Windows_looks
    n_Windows_size := n_Windows_size
    F_law_at := F_law_at
    bi_law_at := b_law_at
    k_law_at := k_law_at
    m_law_at := PySem.W.mg_of X G a_law_at
    F_law_mixed := F_law_mixed
    bi_law_mixed := b_law_mixed
    k_law_mixed := k_law_mixed
    m_law_mixed := PySem.W.mg_of X G a_law_mixed
    F_law_row := F_law_row
    bi_law_row := b_law_row
    k_law_row := k_law_row
    m_law_row := PySem.W.mg_of X G a_law_row
    F_law_bounds := F_law_bounds
    bi_law_bounds := b_law_bounds
    k_law_bounds := k_law_bounds
    m_law_bounds := PySem.W.mg_of X G a_law_bounds
    F_law_moves := F_law_moves
    bi_law_moves := b_law_moves
    k_law_moves := k_law_moves
    m_law_moves := PySem.W.mg_of X G a_law_moves
    F_law_parted := F_law_parted
    bi_law_parted := b_law_parted
    k_law_parted := k_law_parted
    m_law_parted := PySem.W.mg_of X G a_law_parted
    F_law_moved := F_law_moved
    bi_law_moved := b_law_moved
    k_law_moved := k_law_moved
    m_law_moved := PySem.W.mg_of X G a_law_moved
    F_is_whole := F_is_whole
    bi_is_whole := b_is_whole
    k_is_whole := k_is_whole
    m_is_whole := PySem.W.mg_of X G a_is_whole
    F_is_size := F_is_size
    bi_is_size := b_is_size
    k_is_size := k_is_size
    m_is_size := PySem.W.mg_of X G a_is_size
    F_is_number := F_is_number
    bi_is_number := b_is_number
    k_is_number := k_is_number
    m_is_number := PySem.W.mg_of X G a_is_number
    F_is_row := F_is_row
    bi_is_row := b_is_row
    k_is_row := k_is_row
    m_is_row := PySem.W.mg_of X G a_is_row
    F_depths_of := F_depths_of
    bi_depths_of := b_depths_of
    k_depths_of := k_depths_of
    m_depths_of := PySem.W.mg_of X G a_depths_of
    F_is_telling := F_is_telling
    bi_is_telling := b_is_telling
    k_is_telling := k_is_telling
    m_is_telling := PySem.W.mg_of X G a_is_telling
    F_Rows_init := F_Rows_init
    bi_Rows_init := b_Rows_init
    k_Rows_init := k_Rows_init
    F_Rows_number := F_Rows_number
    bi_Rows_number := b_Rows_number
    k_Rows_number := k_Rows_number
    me_Rows_number := ⟨a_Rows_number, i_Rows_number, k_Rows_number⟩
    F_Rows_take := F_Rows_take
    bi_Rows_take := b_Rows_take
    k_Rows_take := k_Rows_take
    me_Rows_take := ⟨a_Rows_take, i_Rows_take, k_Rows_take⟩
    F_Rows_quarters := F_Rows_quarters
    bi_Rows_quarters := b_Rows_quarters
    k_Rows_quarters := k_Rows_quarters
    me_Rows_quarters := ⟨a_Rows_quarters, i_Rows_quarters, k_Rows_quarters⟩
    F_Rows_order := F_Rows_order
    bi_Rows_order := b_Rows_order
    k_Rows_order := k_Rows_order
    me_Rows_order := ⟨a_Rows_order, i_Rows_order, k_Rows_order⟩
    F_Rows_shape := F_Rows_shape
    bi_Rows_shape := b_Rows_shape
    k_Rows_shape := k_Rows_shape
    me_Rows_shape := ⟨a_Rows_shape, i_Rows_shape, k_Rows_shape⟩
    F_one_of := F_one_of
    bi_one_of := b_one_of
    k_one_of := k_one_of
    m_one_of := PySem.W.mg_of X G a_one_of
    F_is_shape := F_is_shape
    bi_is_shape := b_is_shape
    k_is_shape := k_is_shape
    m_is_shape := PySem.W.mg_of X G a_is_shape
    F_want_shape := F_want_shape
    bi_want_shape := b_want_shape
    k_want_shape := k_want_shape
    m_want_shape := PySem.W.mg_of X G a_want_shape
    F_paint := F_paint
    bi_paint := b_paint
    k_paint := k_paint
    m_paint := PySem.W.mg_of X G a_paint
    F_Windows_init := F_Windows_init
    bi_Windows_init := b_Windows_init
    k_Windows_init := k_Windows_init
    F_cell_windows := F_cell_windows
    bi_cell_windows := b_cell_windows
    k_cell_windows := k_cell_windows
    m_cell_windows := PySem.W.mg_of X G a_cell_windows
    F_one_look := F_one_look
    bi_one_look := b_one_look
    k_one_look := k_one_look
    m_one_look := PySem.W.mg_of X G a_one_look
    F_Windows_far := F_Windows_far
    bi_Windows_far := b_Windows_far
    k_Windows_far := k_Windows_far
    me_Windows_far := ⟨a_Windows_far, i_Windows_far, k_Windows_far⟩
    F_Windows_look := F_Windows_look
    bi_Windows_look := b_Windows_look
    k_Windows_look := k_Windows_look
    me_Windows_look := ⟨a_Windows_look, i_Windows_look, k_Windows_look⟩
    F_greater := F_greater
    bi_greater := b_greater
    k_greater := k_greater
    m_greater := PySem.W.mg_of X G a_greater
    F_mixed_by_remainder := F_mixed_by_remainder
    bi_mixed_by_remainder := b_mixed_by_remainder
    k_mixed_by_remainder := k_mixed_by_remainder
    m_mixed_by_remainder := PySem.W.mg_of X G a_mixed_by_remainder
    F_all_mixed := F_all_mixed
    bi_all_mixed := b_all_mixed
    k_all_mixed := k_all_mixed
    m_all_mixed := PySem.W.mg_of X G a_all_mixed
    F_Counts_init := F_Counts_init
    bi_Counts_init := b_Counts_init
    k_Counts_init := k_Counts_init
    F_Counts_quarters := F_Counts_quarters
    bi_Counts_quarters := b_Counts_quarters
    k_Counts_quarters := k_Counts_quarters
    me_Counts_quarters := ⟨a_Counts_quarters, i_Counts_quarters, k_Counts_quarters⟩
    F_Counts_ends_of_quarters := F_Counts_ends_of_quarters
    bi_Counts_ends_of_quarters := b_Counts_ends_of_quarters
    k_Counts_ends_of_quarters := k_Counts_ends_of_quarters
    me_Counts_ends_of_quarters := ⟨a_Counts_ends_of_quarters, i_Counts_ends_of_quarters, k_Counts_ends_of_quarters⟩
    F_Counts_ends_in := F_Counts_ends_in
    bi_Counts_ends_in := b_Counts_ends_in
    k_Counts_ends_in := k_Counts_ends_in
    me_Counts_ends_in := ⟨a_Counts_ends_in, i_Counts_ends_in, k_Counts_ends_in⟩
    F_bounds := F_bounds
    bi_bounds := b_bounds
    k_bounds := k_bounds
    m_bounds := PySem.W.mg_of X G a_bounds
    F_moves_of := F_moves_of
    bi_moves_of := b_moves_of
    k_moves_of := k_moves_of
    m_moves_of := PySem.W.mg_of X G a_moves_of
    F_leaves_behind := F_leaves_behind
    bi_leaves_behind := b_leaves_behind
    k_leaves_behind := k_leaves_behind
    m_leaves_behind := PySem.W.mg_of X G a_leaves_behind
    F_fewest := F_fewest
    bi_fewest := b_fewest
    k_fewest := k_fewest
    m_fewest := PySem.W.mg_of X G a_fewest
    F_law_number := F_law_number
    bi_law_number := b_law_number
    k_law_number := k_law_number
    m_law_number := PySem.W.mg_of X G a_law_number
    F_law_shape := F_law_shape
    bi_law_shape := b_law_shape
    k_law_shape := k_law_shape
    m_law_shape := PySem.W.mg_of X G a_law_shape
    F_law_right := F_law_right
    bi_law_right := b_law_right
    k_law_right := k_law_right
    m_law_right := PySem.W.mg_of X G a_law_right
    F_law_boxed := F_law_boxed
    bi_law_boxed := b_law_boxed
    k_law_boxed := k_law_boxed
    m_law_boxed := PySem.W.mg_of X G a_law_boxed
    F_law_boxes := F_law_boxes
    bi_law_boxes := b_law_boxes
    k_law_boxes := k_law_boxes
    m_law_boxes := PySem.W.mg_of X G a_law_boxes
    F_law_squares := F_law_squares
    bi_law_squares := b_law_squares
    k_law_squares := k_law_squares
    m_law_squares := PySem.W.mg_of X G a_law_squares
    F_law_cells := F_law_cells
    bi_law_cells := b_law_cells
    k_law_cells := k_law_cells
    m_law_cells := PySem.W.mg_of X G a_law_cells
    F_law := F_law
    bi_law := b_law
    k_law := k_law
    m_law := PySem.W.mg_of X G a_law
  }
  exact ⟨a.d_law, fun s v => .of_eq rfl, fun base _ _ => all_ok T⟩
theorem ints_ds9 {K : PySem.W.Frag} {H : Hp} {G : DG} : ∀ ns : List Int, IsDs K H G (ns.map V.int) (ns.map D.int)
  | [] => .nil
  | n :: ns => .cons (.int n) (ints_ds9 ns)
theorem sp_start {B : Bk} {H : Hp} {a : Addr} {ns : List Int} (h : SqL B.K H a (ns.map V.int)) : liftSp B sp_law [.ref a] H (fun v _ => v = .bl true) fun _ _ _ => False := by
  have hi : IsD B.K H (fun _ => none) (.ref a) (.scr (ns.map D.int)) := by
    rcases SqL.toK h with h | h
    · exact .scr h rfl (ints_ds9 ns)
    · exact .scrK h (ints_ds9 ns)
  refine ⟨[.scr (ns.map D.int)], fun _ => none, fun d _ => d = .bl true, dx0, .cons hi .nil, (fun _ _ e => by cases e), ⟨ns, rfl, fun _ _ => rfl⟩, fun v H' d G' _ i e => ?_, fun _ _ _ _ e => e⟩
  subst e
  cases i
  rfl
theorem walk {l : PySem.W.OpenLaw} {q : Program} {loose : List Str} {XP : (Str → Option Value) → Heap → Prop} {YP : World → Heap → Prop} {d : DefRec} {K : Params → PySem.W.Frag} (hn : l.most = some 63) (hdf : d.params.defaults = [])
    (hY : ∀ (w : World) (h : Heap), YP w h → (K w.params).In h)
    (F : ∀ (w : World) (mg : Str → Option Value) (fa : Addr) (h : Heap), (K w.params).In h → h.Ns mainGlobals mg → mg d.name = some (.ref fa) →
      ∃ fd : FuncData, (∀ (s : Shared) (u : Value), BindsTo s fd ⟨[u], []⟩ [("_law_script", u)]) ∧ ∀ base : Heap, (K w.params).In base → base.Ns mainGlobals mg → FnOk l.prog w (K w.params) mg base CX0 32 fa fd ["_law_script"] (liftSp ⟨l.prog, w, K w.params⟩ sp_law)) :
    PySem.W.WalkO q loose XP YP l.row.toRowW d [] (fun f vs => PySem.call f vs) :=
  L2.walk_of (n := 63) (k := 32) (x := "_law_script") (CX := fun _ => CX0) (sp := fun w => liftSp ⟨l.prog, w, K w.params⟩ sp_law) hn (by decide) hdf ⟨rfl, by decide, by decide⟩ hY F (fun w _ a ns _ _ hS => sp_start (B := ⟨l.prog, w, K w.params⟩) hS) fun _ _ _ _ _ z => z
end QF

open PySem PySem.W PyProof.Rows in
set_option maxRecDepth 100000 in
set_option maxHeartbeats 0 in
theorem PySem.Challenge.cw_quarterfold_k85_fewest_leaves_of_all_mov_holds : PySem.Challenge.rw_quarterfold_k85_fewest_leaves_of_all_mov.Holds := by
  w_on; o_law; k_head; (case hw => w_witness2)
  k_fill
  refine QF.walk (l := PySem.Challenge.rw_quarterfold_k85_fewest_leaves_of_all_mov) rfl rfl (fun w h Y => PySem.W.kIn_of Y) ?F
  case F =>
    intro w mg fa h KX G hmg
    refine' QF.all_mk KX G hmg ?aC_Rows ?pgC_Rows ?hdC_Rows ?poC_Rows ?saC_Rows ?mkC_Rows ?kcC_Rows ?aC_Windows ?pgC_Windows ?hdC_Windows ?poC_Windows ?saC_Windows ?mkC_Windows ?kcC_Windows ?aC_Counts ?pgC_Counts ?hdC_Counts ?poC_Counts ?saC_Counts ?mkC_Counts ?kcC_Counts ?a_law_at ?l_law_at ?c_law_at ?k_law_at ?a_law_mixed ?l_law_mixed ?c_law_mixed ?k_law_mixed ?a_law_row ?l_law_row ?c_law_row ?k_law_row ?a_law_bounds ?l_law_bounds ?c_law_bounds ?k_law_bounds ?a_law_moves ?l_law_moves ?c_law_moves ?k_law_moves ?a_law_parted ?l_law_parted ?c_law_parted ?k_law_parted ?a_law_moved ?l_law_moved ?c_law_moved ?k_law_moved ?a_is_whole ?l_is_whole ?c_is_whole ?k_is_whole ?a_is_size ?l_is_size ?c_is_size ?k_is_size ?a_is_number ?l_is_number ?c_is_number ?k_is_number ?a_is_row ?l_is_row ?c_is_row ?k_is_row ?a_depths_of ?l_depths_of ?c_depths_of ?k_depths_of ?a_is_telling ?l_is_telling ?c_is_telling ?k_is_telling ?a_Rows_init ?i_Rows_init ?l_Rows_init ?c_Rows_init ?k_Rows_init ?a_Rows_number ?i_Rows_number ?l_Rows_number ?c_Rows_number ?k_Rows_number ?a_Rows_take ?i_Rows_take ?l_Rows_take ?c_Rows_take ?k_Rows_take ?a_Rows_quarters ?i_Rows_quarters ?l_Rows_quarters ?c_Rows_quarters ?k_Rows_quarters ?a_Rows_order ?i_Rows_order ?l_Rows_order ?c_Rows_order ?k_Rows_order ?a_Rows_shape ?i_Rows_shape ?l_Rows_shape ?c_Rows_shape ?k_Rows_shape ?a_one_of ?l_one_of ?c_one_of ?k_one_of ?a_is_shape ?l_is_shape ?c_is_shape ?k_is_shape ?a_want_shape ?l_want_shape ?c_want_shape ?k_want_shape ?a_paint ?l_paint ?c_paint ?k_paint ?a_Windows_init ?i_Windows_init ?l_Windows_init ?c_Windows_init ?k_Windows_init ?a_cell_windows ?l_cell_windows ?c_cell_windows ?k_cell_windows ?a_one_look ?l_one_look ?c_one_look ?k_one_look ?a_Windows_far ?i_Windows_far ?l_Windows_far ?c_Windows_far ?k_Windows_far ?a_Windows_look ?i_Windows_look ?l_Windows_look ?c_Windows_look ?k_Windows_look ?a_greater ?l_greater ?c_greater ?k_greater ?a_mixed_by_remainder ?l_mixed_by_remainder ?c_mixed_by_remainder ?k_mixed_by_remainder ?a_all_mixed ?l_all_mixed ?c_all_mixed ?k_all_mixed ?a_Counts_init ?i_Counts_init ?l_Counts_init ?c_Counts_init ?k_Counts_init ?a_Counts_quarters ?i_Counts_quarters ?l_Counts_quarters ?c_Counts_quarters ?k_Counts_quarters ?a_Counts_ends_of_quarters ?i_Counts_ends_of_quarters ?l_Counts_ends_of_quarters ?c_Counts_ends_of_quarters ?k_Counts_ends_of_quarters ?a_Counts_ends_in ?i_Counts_ends_in ?l_Counts_ends_in ?c_Counts_ends_in ?k_Counts_ends_in ?a_bounds ?l_bounds ?c_bounds ?k_bounds ?a_moves_of ?l_moves_of ?c_moves_of ?k_moves_of ?a_leaves_behind ?l_leaves_behind ?c_leaves_behind ?k_leaves_behind ?a_fewest ?l_fewest ?c_fewest ?k_fewest ?a_law_number ?l_law_number ?c_law_number ?k_law_number ?a_law_shape ?l_law_shape ?c_law_shape ?k_law_shape ?a_law_right ?l_law_right ?c_law_right ?k_law_right ?a_law_boxed ?l_law_boxed ?c_law_boxed ?k_law_boxed ?a_law_boxes ?l_law_boxes ?c_law_boxes ?k_law_boxes ?a_law_squares ?l_law_squares ?c_law_squares ?k_law_squares ?a_law_cells ?l_law_cells ?c_law_cells ?k_law_cells ?a_law ?l_law ?c_law ?k_law ?z_all ?z_bool ?z_enumerate ?z_int ?z_isinstance ?z_len ?z_max ?z_min ?z_range ?z_sorted ?z_sum ?z_tuple ?g_MIXED ?g_MOST_FEWEST ?g_MOST_SIZE ?n_Counts_ends ?n_Counts_leaves ?n_Counts_parted ?n_Counts_rows ?n_Counts_sums ?n_Rows_numbers ?n_Rows_rows ?n_Windows_looks ?n_Windows_size
    (case aC_Rows => k_is)
    (case pgC_Rows => k_is)
    (case hdC_Rows => k_is)
    (case poC_Rows => k_is)
    (case saC_Rows => k_is)
    (case mkC_Rows => k_is)
    (case kcC_Rows => k_is)
    (case aC_Windows => k_is)
    (case pgC_Windows => k_is)
    (case hdC_Windows => k_is)
    (case poC_Windows => k_is)
    (case saC_Windows => k_is)
    (case mkC_Windows => k_is)
    (case kcC_Windows => k_is)
    (case aC_Counts => k_is)
    (case pgC_Counts => k_is)
    (case hdC_Counts => k_is)
    (case poC_Counts => k_is)
    (case saC_Counts => k_is)
    (case mkC_Counts => k_is)
    (case kcC_Counts => k_is)
    (case a_law_at => k_is)
    (case l_law_at => k_is)
    (case c_law_at => k_is)
    (case k_law_at => k_is)
    (case a_law_mixed => k_is)
    (case l_law_mixed => k_is)
    (case c_law_mixed => k_is)
    (case k_law_mixed => k_is)
    (case a_law_row => k_is)
    (case l_law_row => k_is)
    (case c_law_row => k_is)
    (case k_law_row => k_is)
    (case a_law_bounds => k_is)
    (case l_law_bounds => k_is)
    (case c_law_bounds => k_is)
    (case k_law_bounds => k_is)
    (case a_law_moves => k_is)
    (case l_law_moves => k_is)
    (case c_law_moves => k_is)
    (case k_law_moves => k_is)
    (case a_law_parted => k_is)
    (case l_law_parted => k_is)
    (case c_law_parted => k_is)
    (case k_law_parted => k_is)
    (case a_law_moved => k_is)
    (case l_law_moved => k_is)
    (case c_law_moved => k_is)
    (case k_law_moved => k_is)
    (case a_is_whole => k_is)
    (case l_is_whole => k_is)
    (case c_is_whole => k_is)
    (case k_is_whole => k_is)
    (case a_is_size => k_is)
    (case l_is_size => k_is)
    (case c_is_size => k_is)
    (case k_is_size => k_is)
    (case a_is_number => k_is)
    (case l_is_number => k_is)
    (case c_is_number => k_is)
    (case k_is_number => k_is)
    (case a_is_row => k_is)
    (case l_is_row => k_is)
    (case c_is_row => k_is)
    (case k_is_row => k_is)
    (case a_depths_of => k_is)
    (case l_depths_of => k_is)
    (case c_depths_of => k_is)
    (case k_depths_of => k_is)
    (case a_is_telling => k_is)
    (case l_is_telling => k_is)
    (case c_is_telling => k_is)
    (case k_is_telling => k_is)
    (case a_Rows_init => k_is)
    (case i_Rows_init => k_is)
    (case l_Rows_init => k_is)
    (case c_Rows_init => k_is)
    (case k_Rows_init => k_is)
    (case a_Rows_number => k_is)
    (case i_Rows_number => k_is)
    (case l_Rows_number => k_is)
    (case c_Rows_number => k_is)
    (case k_Rows_number => k_is)
    (case a_Rows_take => k_is)
    (case i_Rows_take => k_is)
    (case l_Rows_take => k_is)
    (case c_Rows_take => k_is)
    (case k_Rows_take => k_is)
    (case a_Rows_quarters => k_is)
    (case i_Rows_quarters => k_is)
    (case l_Rows_quarters => k_is)
    (case c_Rows_quarters => k_is)
    (case k_Rows_quarters => k_is)
    (case a_Rows_order => k_is)
    (case i_Rows_order => k_is)
    (case l_Rows_order => k_is)
    (case c_Rows_order => k_is)
    (case k_Rows_order => k_is)
    (case a_Rows_shape => k_is)
    (case i_Rows_shape => k_is)
    (case l_Rows_shape => k_is)
    (case c_Rows_shape => k_is)
    (case k_Rows_shape => k_is)
    (case a_one_of => k_is)
    (case l_one_of => k_is)
    (case c_one_of => k_is)
    (case k_one_of => k_is)
    (case a_is_shape => k_is)
    (case l_is_shape => k_is)
    (case c_is_shape => k_is)
    (case k_is_shape => k_is)
    (case a_want_shape => k_is)
    (case l_want_shape => k_is)
    (case c_want_shape => k_is)
    (case k_want_shape => k_is)
    (case a_paint => k_is)
    (case l_paint => k_is)
    (case c_paint => k_is)
    (case k_paint => k_is)
    (case a_Windows_init => k_is)
    (case i_Windows_init => k_is)
    (case l_Windows_init => k_is)
    (case c_Windows_init => k_is)
    (case k_Windows_init => k_is)
    (case a_cell_windows => k_is)
    (case l_cell_windows => k_is)
    (case c_cell_windows => k_is)
    (case k_cell_windows => k_is)
    (case a_one_look => k_is)
    (case l_one_look => k_is)
    (case c_one_look => k_is)
    (case k_one_look => k_is)
    (case a_Windows_far => k_is)
    (case i_Windows_far => k_is)
    (case l_Windows_far => k_is)
    (case c_Windows_far => k_is)
    (case k_Windows_far => k_is)
    (case a_Windows_look => k_is)
    (case i_Windows_look => k_is)
    (case l_Windows_look => k_is)
    (case c_Windows_look => k_is)
    (case k_Windows_look => k_is)
    (case a_greater => k_is)
    (case l_greater => k_is)
    (case c_greater => k_is)
    (case k_greater => k_is)
    (case a_mixed_by_remainder => k_is)
    (case l_mixed_by_remainder => k_is)
    (case c_mixed_by_remainder => k_is)
    (case k_mixed_by_remainder => k_is)
    (case a_all_mixed => k_is)
    (case l_all_mixed => k_is)
    (case c_all_mixed => k_is)
    (case k_all_mixed => k_is)
    (case a_Counts_init => k_is)
    (case i_Counts_init => k_is)
    (case l_Counts_init => k_is)
    (case c_Counts_init => k_is)
    (case k_Counts_init => k_is)
    (case a_Counts_quarters => k_is)
    (case i_Counts_quarters => k_is)
    (case l_Counts_quarters => k_is)
    (case c_Counts_quarters => k_is)
    (case k_Counts_quarters => k_is)
    (case a_Counts_ends_of_quarters => k_is)
    (case i_Counts_ends_of_quarters => k_is)
    (case l_Counts_ends_of_quarters => k_is)
    (case c_Counts_ends_of_quarters => k_is)
    (case k_Counts_ends_of_quarters => k_is)
    (case a_Counts_ends_in => k_is)
    (case i_Counts_ends_in => k_is)
    (case l_Counts_ends_in => k_is)
    (case c_Counts_ends_in => k_is)
    (case k_Counts_ends_in => k_is)
    (case a_bounds => k_is)
    (case l_bounds => k_is)
    (case c_bounds => k_is)
    (case k_bounds => k_is)
    (case a_moves_of => k_is)
    (case l_moves_of => k_is)
    (case c_moves_of => k_is)
    (case k_moves_of => k_is)
    (case a_leaves_behind => k_is)
    (case l_leaves_behind => k_is)
    (case c_leaves_behind => k_is)
    (case k_leaves_behind => k_is)
    (case a_fewest => k_is)
    (case l_fewest => k_is)
    (case c_fewest => k_is)
    (case k_fewest => k_is)
    (case a_law_number => k_is)
    (case l_law_number => k_is)
    (case c_law_number => k_is)
    (case k_law_number => k_is)
    (case a_law_shape => k_is)
    (case l_law_shape => k_is)
    (case c_law_shape => k_is)
    (case k_law_shape => k_is)
    (case a_law_right => k_is)
    (case l_law_right => k_is)
    (case c_law_right => k_is)
    (case k_law_right => k_is)
    (case a_law_boxed => k_is)
    (case l_law_boxed => k_is)
    (case c_law_boxed => k_is)
    (case k_law_boxed => k_is)
    (case a_law_boxes => k_is)
    (case l_law_boxes => k_is)
    (case c_law_boxes => k_is)
    (case k_law_boxes => k_is)
    (case a_law_squares => k_is)
    (case l_law_squares => k_is)
    (case c_law_squares => k_is)
    (case k_law_squares => k_is)
    (case a_law_cells => k_is)
    (case l_law_cells => k_is)
    (case c_law_cells => k_is)
    (case k_law_cells => k_is)
    (case a_law => k_is)
    (case l_law => k_is)
    (case c_law => k_is)
    (case k_law => k_is)
    (case z_all => k_is)
    (case z_bool => k_is)
    (case z_enumerate => k_is)
    (case z_int => k_is)
    (case z_isinstance => k_is)
    (case z_len => k_is)
    (case z_max => k_is)
    (case z_min => k_is)
    (case z_range => k_is)
    (case z_sorted => k_is)
    (case z_sum => k_is)
    (case z_tuple => k_is)
    (case g_MIXED => k_is)
    (case g_MOST_FEWEST => k_is)
    (case g_MOST_SIZE => k_is)
    (case n_Counts_ends => k_is)
    (case n_Counts_leaves => k_is)
    (case n_Counts_parted => k_is)
    (case n_Counts_rows => k_is)
    (case n_Counts_sums => k_is)
    (case n_Rows_numbers => k_is)
    (case n_Rows_rows => k_is)
    (case n_Windows_looks => k_is)
    (case n_Windows_size => k_is)
#print axioms PySem.Challenge.cw_quarterfold_k85_fewest_leaves_of_all_mov_holds

