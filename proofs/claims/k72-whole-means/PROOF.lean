import PyProof.Rows.All
import Wide.All
import OpenK.AllK
import Wide.FinOn
import HandS.ForMost
import HandS.Wide
import HandS.Deep
import HandS.IsInst
import HandS.TupAny
import HandS.Style
import HandS.Star
import HandS.NoneIn
import HandS.Zip
import PySem.Challenge.RW_allincomes_k72_whole_means
section FW1
set_option Elab.async false
set_option linter.all false
set_option maxRecDepth 100000
set_option maxHeartbeats 4000000
/-! a small logic of states over the layer: what each slot holds, told as data; lists that are owned -/
namespace G
open PySem L2

/-! ### data without lists -/
mutual
def noL : PyData → Bool
  | .list _ => false
  | .dict _ => false
  | .tuple xs => noLs xs
  | .none => true
  | .bool _ => true
  | .int _ => true
  | .str _ => true
def noLs : List PyData → Bool
  | [] => true
  | d :: ds => noL d && noLs ds
end

theorem noLs_mem : ∀ {ds : List PyData} {d : PyData}, noLs ds = true → d ∈ ds → noL d = true
  | [], _, _, h => absurd h (by simp)
  | x :: xs, d, h, hm => by
    rw [noLs, Bool.and_eq_true] at h
    rcases List.mem_cons.mp hm with rfl | hm
    · exact h.1
    · exact noLs_mem h.2 hm
theorem noLs_of : ∀ {ds : List PyData}, (∀ d, d ∈ ds → noL d = true) → noLs ds = true
  | [], _ => rfl
  | x :: xs, h => by
    rw [noLs, h x List.mem_cons_self, noLs_of fun d hd => h d (List.mem_cons_of_mem _ hd)]
    rfl
theorem noLs_app {xs ys : List PyData} (h1 : noLs xs = true) (h2 : noLs ys = true) : noLs (xs ++ ys) = true :=
  noLs_of fun d hd => (List.mem_append.mp hd).elim (noLs_mem h1) (noLs_mem h2)

/-! ### data in a heap -/
section
variable {K : PySem.W.Frag} {H H' : Hp}
theorem rd_same (e : Same H H') {a : Addr} {u : HO} (h : Rd H a u) : Rd H' a u := by
  rcases h with h | ⟨o, h⟩
  · exact .inl (e _ _ h)
  · exact .inr ⟨o, e _ _ h⟩
/-- tuples are kept -/
def TSub (H H' : Hp) : Prop := ∀ a xs, Rd H a (.tup xs) → Rd H' a (.tup xs)
theorem tsub_same (e : Same H H') : TSub H H' := fun _ _ h => rd_same e h
theorem sqt_t (e : TSub H H') {a : Addr} {xs : List V} (h : SqT K H a xs) : SqT K H' a xs := by
  rcases h with h | h
  · exact .inl (e _ _ h)
  · exact .inr h
theorem sqt_same (e : Same H H') {a : Addr} {xs : List V} (h : SqT K H a xs) : SqT K H' a xs := sqt_t (tsub_same e) h
mutual
theorem dp_t (e : TSub H H') : ∀ (d : PyData) (v : V), noL d = true → Dp K H v d → Dp K H' v d
  | .none, _, _, h => by cases h; exact .non
  | .bool b, _, _, h => by cases h; exact .bl b
  | .int i, _, _, h => by cases h; exact .int i
  | .str x, _, _, h => by cases h; exact .str x
  | .list _, _, n, _ => by cases n
  | .tuple ds, _, n, h => by
    cases h with
    | tup hs ha => exact .tup (sqt_t e hs) (dps_t e ds _ n ha)
  | .dict _, _, n, _ => by cases n
theorem dps_t (e : TSub H H') : ∀ (ds : List PyData) (vs : List V), noLs ds = true → DpAll K H vs ds → DpAll K H' vs ds
  | [], _, _, h => by cases h; exact .nil
  | d :: ds, _, n, h => by
    cases h with
    | cons h1 h2 =>
      rw [noLs, Bool.and_eq_true] at n
      exact .cons (dp_t e d _ n.1 h1) (dps_t e ds _ n.2 h2)
end
mutual
theorem dp_same (e : Same H H') : ∀ (d : PyData) (v : V), Dp K H v d → Dp K H' v d
  | .none, _, h => by cases h; exact .non
  | .bool b, _, h => by cases h; exact .bl b
  | .int i, _, h => by cases h; exact .int i
  | .str x, _, h => by cases h; exact .str x
  | .list ds, _, h => by
    cases h with
    | lst hs ha => exact .lst (e.seq hs) (dps_same e ds _ ha)
  | .tuple ds, _, h => by
    cases h with
    | tup hs ha => exact .tup (sqt_same e hs) (dps_same e ds _ ha)
  | .dict _, _, h => by cases h
theorem dps_same (e : Same H H') : ∀ (ds : List PyData) (vs : List V), DpAll K H vs ds → DpAll K H' vs ds
  | [], _, h => by cases h; exact .nil
  | d :: ds, _, h => by
    cases h with
    | cons h1 h2 => exact .cons (dp_same e d _ h1) (dps_same e ds _ h2)
end
theorem dps_len : ∀ {vs : List V} {ds : List PyData}, DpAll K H vs ds → vs.length = ds.length
  | _, _, .nil => rfl
  | _, _, .cons _ h => by rw [List.length_cons, List.length_cons, dps_len h]
theorem dps_get : ∀ {vs : List V} {ds : List PyData} {i : Nat} {d : PyData}, DpAll K H vs ds → ds[i]? = some d → ∃ v, vs[i]? = some v ∧ Dp K H v d
  | _, _, _, _, .nil, e => by simp at e
  | _, _, 0, _, .cons h _, e => by
    simp at e
    subst e
    exact ⟨_, rfl, h⟩
  | _, _, i + 1, _, .cons _ h, e => by
    obtain ⟨v, e1, e2⟩ := dps_get (i := i) h (by simpa using e)
    exact ⟨v, by simpa using e1, e2⟩
theorem dps_getV : ∀ {vs : List V} {ds : List PyData} {i : Nat} {v : V}, DpAll K H vs ds → vs[i]? = some v → ∃ d, ds[i]? = some d ∧ Dp K H v d
  | _, _, _, _, .nil, e => by simp at e
  | _, _, 0, _, .cons h _, e => by
    simp at e
    subst e
    exact ⟨_, rfl, h⟩
  | _, _, i + 1, _, .cons _ h, e => by
    obtain ⟨v, e1, e2⟩ := dps_getV (i := i) h (by simpa using e)
    exact ⟨v, by simpa using e1, e2⟩
theorem dps_app : ∀ {vs ws : List V} {ds es : List PyData}, DpAll K H vs ds → DpAll K H ws es → DpAll K H (vs ++ ws) (ds ++ es)
  | _, _, _, _, .nil, h => h
  | _, _, _, _, .cons a h, h' => .cons a (dps_app h h')
theorem dps_take : ∀ {vs : List V} {ds : List PyData} (n : Nat), DpAll K H vs ds → DpAll K H (vs.take n) (ds.take n)
  | _, _, 0, _ => by simp; exact .nil
  | _, _, n + 1, .nil => by simp; exact .nil
  | _, _, n + 1, .cons a h => .cons a (dps_take n h)
theorem dps_drop : ∀ {vs : List V} {ds : List PyData} (n : Nat), DpAll K H vs ds → DpAll K H (vs.drop n) (ds.drop n)
  | _, _, 0, h => h
  | _, _, n + 1, .nil => .nil
  | _, _, n + 1, .cons _ h => dps_drop n h
theorem dps_rev : ∀ {vs : List V} {ds : List PyData}, DpAll K H vs ds → DpAll K H vs.reverse ds.reverse
  | _, _, .nil => .nil
  | _, _, .cons a h => by
    rw [List.reverse_cons, List.reverse_cons]
    exact dps_app (dps_rev h) (.cons a .nil)
theorem dps_set : ∀ {vs : List V} {ds : List PyData} {v : V} {d : PyData} (i : Nat), Dp K H v d → DpAll K H vs ds → DpAll K H (vs.set i v) (ds.set i d)
  | _, _, _, _, _, _, .nil => .nil
  | _, _, _, _, 0, r, .cons _ h => .cons r h
  | _, _, _, _, i + 1, r, .cons a h => .cons a (dps_set i r h)
theorem dps_ints : ∀ {vs : List V} {is : List Int}, DpAll K H vs (is.map .int) → vs = is.map V.int
  | _, [], h => by cases h; rfl
  | _, _ :: is, h => by
    cases h with
    | cons h1 h2 =>
      cases h1
      rw [dps_ints h2]
      rfl
theorem dps_bools : ∀ {vs : List V} {bs : List Bool}, DpAll K H vs (bs.map .bool) → vs = bs.map V.bl
  | _, [], h => by cases h; rfl
  | _, _ :: bs, h => by
    cases h with
    | cons h1 h2 =>
      cases h1
      rw [dps_bools h2]
      rfl
theorem dps_of_ints : ∀ {is : List Int}, DpAll K H (is.map V.int) (is.map .int)
  | [] => .nil
  | _ :: _ => .cons (.int _) dps_of_ints
end

/-! ### what a slot holds -/
inductive AV where
  /-- data that nothing changes: of the base, or without lists -/
  | dat (d : PyData)
  /-- a list that is owned (at that address) -/
  | lst (o : Option Addr) (ds : List PyData)
  /-- a list that nobody writes any more -/
  | fz (ds : List PyData)
  /-- the list that slot i owns -/
  | sl (i : Nat)
  | ins (C : Addr) (fs : List (Str × PyData))
  /-- an instance that is being made -/
  | obj (p C : Addr) (fs : List (Str × PyData))
abbrev Ab := List (Option AV)

def RlIns (K : PySem.W.Frag) (H : Hp) (v : V) (C : Addr) (fs : List (Str × PyData)) : Prop :=
  noLs (fs.map (·.2)) = true ∧ ∃ p dx vs, v = .ref p ∧ H p = some (.ins C dx vs) ∧ vs.map (·.1) = fs.map (·.1) ∧ DpAll K H (vs.map (·.2)) (fs.map (·.2))
/-- a list of tuples and the like, at p -/
def LstAt (K : PySem.W.Frag) (H : Hp) (p : Addr) (ds : List PyData) : Prop := noLs ds = true ∧ ∃ vs, H p = some (.lst vs) ∧ DpAll K H vs ds
def Rl (K : PySem.W.Frag) (B H : Hp) (l : St) (v : V) : AV → Prop
  | .dat d => Dp K B v d ∨ (noL d = true ∧ Dp K H v d)
  | .lst o ds => ∃ p, v = .ref p ∧ (∀ q, o = some q → p = q) ∧ B p = none ∧ LstAt K H p ds
  | .fz ds => ∃ p, v = .ref p ∧ B p = none ∧ LstAt K H p ds
  | .sl i => l[i]? = some (some v)
  | .ins C fs => RlIns K H v C fs
  | .obj p C fs => (v = .ref p ∧ B p = none) ∧ RlIns K H v C fs

structure SR (K : PySem.W.Frag) (B H : Hp) (l : St) (m : Ab) : Prop where
  base : Same B H
  len : l.length = m.length
  rel : ∀ (i : Nat) a, m[i]? = some (some a) → ∃ v, l[i]? = some (some v) ∧ Rl K B H l v a
  dis : ∀ (i j : Nat) o ds a, m[i]? = some (some (.lst o ds)) → m[j]? = some (some a) → (∃ o' ds', a = .lst o' ds') ∨ (∃ ds', a = .fz ds') → l[i]? = l[j]? → i = j
  back : ∀ (j i : Nat), m[j]? = some (some (.sl i)) → i < j ∧ ∃ o ds, m[i]? = some (some (.lst o ds))

section
variable {K : PySem.W.Frag} {B H H' : Hp} {l l' : St} {m m' : Ab} {a : AV} {v x : V}
theorem rlins_same (e : Same H H') {C : Addr} {fs : List (Str × PyData)} (h : RlIns K H v C fs) : RlIns K H' v C fs := by
  obtain ⟨n, p, dx, vs, ev, hp, hn, hd⟩ := h
  exact ⟨n, p, dx, vs, ev, e _ _ hp, hn, dps_same e _ _ hd⟩
theorem lstAt_same (e : Same H H') {p : Addr} {ds : List PyData} (h : LstAt K H p ds) : LstAt K H' p ds := by
  obtain ⟨n, vs, hp, hd⟩ := h
  exact ⟨n, vs, e _ _ hp, dps_same e _ _ hd⟩
theorem Rl.same (e : Same H H') (h : Rl K B H l v a) : Rl K B H' l v a := by
  cases a with
  | dat d => exact h.elim .inl fun h => .inr ⟨h.1, dp_same e _ _ h.2⟩
  | lst o ds =>
    obtain ⟨p, ev, ho, hb, h⟩ := h
    exact ⟨p, ev, ho, hb, lstAt_same e h⟩
  | fz ds =>
    obtain ⟨p, ev, hb, h⟩ := h
    exact ⟨p, ev, hb, lstAt_same e h⟩
  | sl i => exact h
  | ins C fs => exact rlins_same e h
  | obj q C fs => exact ⟨h.1, rlins_same e h.2⟩
theorem SR.same (S : SR K B H l m) (e : Same H H') : SR K B H' l m :=
  ⟨S.base.trans e, S.len, fun i a h => let ⟨v, h1, h2⟩ := S.rel i a h; ⟨v, h1, h2.same e⟩, S.dis, S.back⟩
/-- only what is told counts -/
theorem SR.to (S : SR K B H l m) (hl : l'.length = m'.length) (hm : ∀ (i : Nat) a, m'[i]? = some (some a) → m[i]? = some (some a)) (he : ∀ (i : Nat) a, m'[i]? = some (some a) → l'[i]? = l[i]?) (hs : ∀ (j i : Nat), m'[j]? = some (some (.sl i)) → l'[i]? = l[i]? ∧ ∃ o ds, m'[i]? = some (some (.lst o ds))) : SR K B H l' m' := by
  refine ⟨S.base, hl, fun i a h => ?_, fun i j o ds a h1 h2 h3 h4 => ?_, fun j i h => ⟨(S.back j i (hm _ _ h)).1, (hs j i h).2⟩⟩
  · obtain ⟨v, h1, h2⟩ := S.rel i a (hm i a h)
    refine ⟨v, (he i a h).trans h1, ?_⟩
    cases a with
    | sl j => exact (hs i j h).1.trans h2
    | _ => exact h2
  · exact S.dis i j o ds a (hm _ _ h1) (hm _ _ h2) h3 (by rw [← he _ _ h1, ← he _ _ h2]; exact h4)
theorem getq_append_left' {α : Type} {l r : List α} {i : Nat} {x : α} (h : l[i]? = some x) : (l ++ r)[i]? = some x := by
  rw [List.getElem?_append_left (List.getElem?_eq_some_iff.mp h).1]
  exact h
theorem SR.pop {x : Option V} {a : Option AV} (S : SR K B H (l ++ [x]) (m ++ [a])) : SR K B H l m := by
  have hl : l.length = m.length := by
    have := S.len
    rw [List.length_append, List.length_append] at this
    simpa using this
  have lt : ∀ {i : Nat} {a : AV}, m[i]? = some (some a) → i < l.length := fun h => by
    rw [hl]
    exact (List.getElem?_eq_some_iff.mp h).1
  have le : ∀ {i : Nat}, i < l.length → (l ++ [x])[i]? = l[i]? := fun h => List.getElem?_append_left h
  refine ⟨S.base, hl, fun i a h => ?_, fun i j o ds a h1 h2 h3 h4 => ?_, fun j i h => ?_⟩
  · obtain ⟨v, h1, h2⟩ := S.rel i a (getq_append_left' h)
    rw [le (lt h)] at h1
    refine ⟨v, h1, ?_⟩
    cases a with
    | sl j =>
      have hj : j < i := (S.back i j (getq_append_left' h)).1
      have h2 : (l ++ [x])[j]? = some (some v) := h2
      rw [le (Nat.lt_trans hj (lt h))] at h2
      exact h2
    | _ => exact h2
  · exact S.dis i j o ds a (getq_append_left' h1) (getq_append_left' h2) h3 (by rw [le (lt h1), le (lt h2)]; exact h4)
  · obtain ⟨h1, o, ds, h2⟩ := S.back j i (getq_append_left' h)
    refine ⟨h1, o, ds, ?_⟩
    have hj : j < m.length := (List.getElem?_eq_some_iff.mp h).1
    rw [List.getElem?_append_left (Nat.lt_trans h1 hj)] at h2
    exact h2
theorem SR.last (S : SR K B H (l ++ [some v]) (m ++ [some a])) : Rl K B H (l ++ [some v]) v a := by
  have hl : l.length = m.length := by
    have := S.len
    rw [List.length_append, List.length_append] at this
    simpa using this
  obtain ⟨u, h1, h2⟩ := S.rel m.length a (by rw [List.getElem?_append_right (Nat.le_refl _), Nat.sub_self]; rfl)
  rw [← hl, List.getElem?_append_right (Nat.le_refl _), Nat.sub_self] at h1
  have e : v = u := Option.some.inj (Option.some.inj h1)
  rw [e] at h2 ⊢
  exact h2
/-- what is not a list of its own -/
def AV.plain : AV → Bool
  | .dat _ => true
  | .ins _ _ => true
  | .obj _ _ _ => true
  | _ => false
theorem Rl.weak (l' : St) (h : Rl K B H l v a) (hs : ∀ i, a ≠ .sl i) : Rl K B H l' v a := by
  cases a with
  | sl i => exact absurd rfl (hs i)
  | _ => exact h
theorem rl_old (h : Rl K B H l v a) {r : St} : Rl K B H (l ++ r) v a := by
  cases a with
  | sl i => exact getq_append_left' h
  | _ => exact h
theorem SR.push (S : SR K B H l m) (h : Rl K B H l v a) (hn : ∀ o ds, a = .lst o ds → ∀ i : Nat, (∃ o' ds', m[i]? = some (some (.lst o' ds')) ∨ m[i]? = some (some (.fz ds'))) → l[i]? ≠ some (some v))
    (hf : ∀ ds, a = .fz ds → ∀ (i : Nat) o' ds', m[i]? = some (some (.lst o' ds')) → l[i]? ≠ some (some v)) (hb : ∀ i, a = .sl i → ∃ o ds, m[i]? = some (some (.lst o ds)) := by exact fun _ z => by cases z) : SR K B H (l ++ [some v]) (m ++ [some a]) := by
  have at_ : ∀ {i : Nat} {c : AV}, (m ++ [some a])[i]? = some (some c) → (i < m.length ∧ m[i]? = some (some c)) ∨ (i = m.length ∧ c = a) := fun {i c} e => by
    by_cases hi : i < m.length
    · rw [List.getElem?_append_left hi] at e
      exact .inl ⟨hi, e⟩
    · have hi' : i = m.length := by
        have := (List.getElem?_eq_some_iff.mp e).1
        rw [List.length_append] at this
        simp at this
        omega
      subst hi'
      rw [List.getElem?_append_right (Nat.le_refl _), Nat.sub_self] at e
      exact .inr ⟨rfl, (Option.some.inj (Option.some.inj e)).symm⟩
  have end_ : (l ++ [some v])[m.length]? = some (some v) := by
    rw [← S.len, List.getElem?_append_right (Nat.le_refl _), Nat.sub_self]
    rfl
  have old : ∀ {i : Nat}, i < m.length → (l ++ [some v])[i]? = l[i]? := fun h => List.getElem?_append_left (by rw [S.len]; exact h)
  refine ⟨S.base, by rw [List.length_append, List.length_append, S.len]; rfl, fun i c e => ?_, fun i j o ds c h1 h2 h3 h4 => ?_, fun j i e => ?_⟩
  · rcases at_ e with ⟨hi, e2⟩ | ⟨hi, e2⟩
    · obtain ⟨u, h1, h2⟩ := S.rel i c e2
      exact ⟨u, (old hi).trans h1, rl_old h2⟩
    · subst hi
      subst e2
      exact ⟨v, end_, rl_old h⟩
  · rcases at_ h1 with ⟨hi, e1⟩ | ⟨hi, e1⟩ <;> rcases at_ h2 with ⟨hj, e2⟩ | ⟨hj, e2⟩
    · rw [old hi, old hj] at h4
      exact S.dis i j o ds c e1 e2 h3 h4
    · subst hj e2
      rw [old hi, end_] at h4
      rcases h3 with ⟨o', ds', rfl⟩ | ⟨ds', rfl⟩
      · exact absurd h4 (hn o' ds' rfl i ⟨o, ds, .inl e1⟩)
      · exact absurd h4 (hf ds' rfl i o ds e1)
    · subst hi
      rw [old hj, end_] at h4
      rcases h3 with ⟨o', ds', rfl⟩ | ⟨ds', rfl⟩
      · exact absurd h4.symm (hn o ds e1.symm j ⟨o', ds', .inl e2⟩)
      · exact absurd h4.symm (hn o ds e1.symm j ⟨none, ds', .inr e2⟩)
    · rw [hi, hj]
  · rcases at_ e with ⟨_, e⟩ | ⟨hj, e⟩
    · obtain ⟨h1, o, ds, h2⟩ := S.back j i e
      exact ⟨h1, o, ds, getq_append_left' h2⟩
    · subst e
      have h : l[i]? = some (some v) := h
      refine ⟨?_, ?_⟩
      · rw [hj, ← S.len]
        exact (List.getElem?_eq_some_iff.mp h).1
      · obtain ⟨o, ds, h2⟩ := hb i rfl
        exact ⟨o, ds, getq_append_left' h2⟩
theorem SR.pushP (S : SR K B H l m) (h : Rl K B H l v a) (hp : a.plain = true) : SR K B H (l ++ [some v]) (m ++ [some a]) :=
  S.push h (fun o ds e => by rw [e] at hp; cases hp) (fun ds e => by rw [e] at hp; cases hp) fun i e => by rw [e] at hp; cases hp
theorem SR.pushS (S : SR K B H l m) {i : Nat} (h : l[i]? = some (some v)) (hm : ∃ o ds, m[i]? = some (some (.lst o ds))) : SR K B H (l ++ [some v]) (m ++ [some (.sl i)]) :=
  S.push (a := .sl i) h (fun o ds e => by cases e) (fun ds e => by cases e) fun j e => by cases e; exact hm
/-- a fresh address -/
theorem SR.fresh (S : SR K B H l m) {p : Addr} (hp : H p = none) : B p = none := by
  cases e : B p with
  | none => rfl
  | some o => rw [S.base _ _ e] at hp; cases hp
theorem SR.pushN (S : SR K B H l m) (e : Same H H') {p : Addr} {ds : List PyData} {o : Option Addr} (ho : ∀ q, o = some q → p = q) (hp : H p = none) (h : LstAt K H' p ds) : SR K B H' (l ++ [some (.ref p)]) (m ++ [some (.lst o ds)]) := by
  refine (S.same e).push ⟨p, rfl, ho, S.fresh hp, h⟩ (fun o2 ds2 _ i hi hl => ?_) (fun ds2 q => by cases q)
  have out : ∀ {q : Addr} {ds3 : List PyData}, V.ref q = V.ref p → LstAt K H q ds3 → False := fun eq hq => by
    cases eq
    obtain ⟨_, vs, hv, _⟩ := hq
    rw [hp] at hv
    cases hv
  obtain ⟨o', ds', hi | hi⟩ := hi
  · obtain ⟨u, h1, q, eu, _, _, h2⟩ := S.rel i _ hi
    rw [hl] at h1
    cases h1
    exact out eu.symm h2
  · obtain ⟨u, h1, q, eu, _, h2⟩ := S.rel i _ hi
    rw [hl] at h1
    cases h1
    exact out eu.symm h2
/-- the last but one is forgotten -/
theorem SR.drop1 {x : Option V} {c : Option AV} (S : SR K B H (l ++ [x] ++ [some v]) (m ++ [c] ++ [some a])) (ha : ∀ i, a ≠ .sl i := by intro i z; cases z) : SR K B H (l ++ [some v]) (m ++ [some a]) := by
  have P := S.pop.pop
  have hl := P.len
  have endm : (m ++ [c] ++ [some a])[m.length + 1]? = some (some a) := by
    rw [List.getElem?_append_right (by simp)]
    simp
  have endl : (l ++ [x] ++ [some v])[m.length + 1]? = some (some v) := by
    rw [List.getElem?_append_right (by simp [hl])]
    simp [hl]
  have old : ∀ {i : Nat} {q : AV}, m[i]? = some (some q) → (m ++ [c] ++ [some a])[i]? = some (some q) ∧ (l ++ [x] ++ [some v])[i]? = l[i]? := fun {i q} e => by
    have hi : i < m.length := (List.getElem?_eq_some_iff.mp e).1
    refine ⟨getq_append_left' (getq_append_left' e), ?_⟩
    rw [List.getElem?_append_left (by simp; omega), List.getElem?_append_left (by omega)]
  refine P.push (S.last.weak l ha) (fun o ds e i hi hv => ?_) (fun ds e i o' ds' hi hv => ?_) (fun i e => absurd e (ha i))
  · obtain ⟨o', ds', hi | hi⟩ := hi
    · obtain ⟨h1, h2⟩ := old hi
      have z := S.dis (m.length + 1) i o ds _ (by rw [endm, e]) h1 (.inl ⟨o', ds', rfl⟩) (by rw [endl, h2, hv])
      have := (List.getElem?_eq_some_iff.mp hi).1
      omega
    · obtain ⟨h1, h2⟩ := old hi
      have z := S.dis (m.length + 1) i o ds _ (by rw [endm, e]) h1 (.inr ⟨ds', rfl⟩) (by rw [endl, h2, hv])
      have := (List.getElem?_eq_some_iff.mp hi).1
      omega
  · obtain ⟨h1, h2⟩ := old hi
    have z := S.dis i (m.length + 1) o' ds' a h1 (by rw [endm]) (.inr ⟨ds, e⟩) (by rw [endl, h2, hv])
    have := (List.getElem?_eq_some_iff.mp hi).1
    omega
end
end G
end FW1
section FW2
set_option Elab.async false
set_option linter.all false
set_option maxRecDepth 100000
set_option maxHeartbeats 4000000
namespace G
open PySem L2

/-! ### states: further rows -/
def slFree (m : Ab) : Bool := m.all fun
  | some (.sl _) => false
  | _ => true
theorem slFree_at {m : Ab} (h : slFree m = true) {j i : Nat} : m[j]? ≠ some (some (.sl i)) := fun e => by
  have := List.all_eq_true.mp h _ (List.mem_of_getElem? e)
  cases this
theorem slFree_of {m : Ab} (h : ∀ j i : Nat, m[j]? ≠ some (some (.sl i))) : slFree m = true := List.all_eq_true.mpr fun x hx => by
  obtain ⟨j, hj⟩ := List.getElem?_of_mem hx
  cases x with
  | none => rfl
  | some a =>
    cases a with
    | sl i => exact absurd hj (h j i)
    | _ => rfl
theorem slFree_set {m : Ab} {i : Nat} {a : Option AV} (h : slFree m = true) (ha : ∀ j, a ≠ some (.sl j)) : slFree (m.set i a) = true := slFree_of fun j k e => by
  by_cases hj : i = j
  · subst hj
    have hlt : i < m.length := by
      have := (List.getElem?_eq_some_iff.mp e).1
      simpa using this
    rw [List.getElem?_set_self hlt] at e
    exact ha k (Option.some.inj e)
  · rw [List.getElem?_set_ne hj] at e
    exact slFree_at h e
theorem slFree_app {m m' : Ab} : slFree (m ++ m') = (slFree m && slFree m') := List.all_append

section
variable {K : PySem.W.Frag} {B H H' : Hp} {l l' : St} {m m' : Ab} {a : AV} {v x : V}
theorem SR.at_ (S : SR K B H l m) {i : Nat} (h : m[i]? = some (some a)) : ∃ v, l[i]? = some (some v) ∧ Rl K B H l v a := S.rel i a h
/-- the last ghost goes to slot i -/
theorem SR.set (S : SR K B H (l ++ [some v]) (m ++ [some a])) (hs : slFree m = true) (ha : ∀ j, a ≠ .sl j) (i : Nat) : SR K B H (l.set i (some v)) (m.set i (some a)) := by
  have hl : l.length = m.length := by
    have := S.len
    rw [List.length_append, List.length_append] at this
    simpa using this
  have P := S.pop
  have L := S.last
  have end_l : (l ++ [some v])[l.length]? = some (some v) := by rw [List.getElem?_append_right (Nat.le_refl _), Nat.sub_self]; rfl
  have end_m : (m ++ [some a])[m.length]? = some (some a) := by rw [List.getElem?_append_right (Nat.le_refl _), Nat.sub_self]; rfl
  have old : ∀ {j : Nat}, j < m.length → (l ++ [some v])[j]? = l[j]? ∧ (m ++ [some a])[j]? = m[j]? := fun h =>
    ⟨List.getElem?_append_left (by omega), List.getElem?_append_left h⟩
  have at_ : ∀ {j : Nat} {c : AV}, (m.set i (some a))[j]? = some (some c) → j < m.length ∧ ((j = i ∧ c = a ∧ (l.set i (some v))[j]? = some (some v)) ∨ (j ≠ i ∧ m[j]? = some (some c) ∧ (l.set i (some v))[j]? = l[j]?)) := fun {j c} e => by
    have hj : j < m.length := by
      have := (List.getElem?_eq_some_iff.mp e).1
      simpa using this
    refine ⟨hj, ?_⟩
    by_cases hji : i = j
    · subst hji
      rw [List.getElem?_set_self hj] at e
      exact .inl ⟨rfl, (Option.some.inj (Option.some.inj e)).symm, List.getElem?_set_self (by omega)⟩
    · rw [List.getElem?_set_ne hji] at e
      exact .inr ⟨Ne.symm hji, e, List.getElem?_set_ne hji⟩
  refine ⟨S.base, by rw [List.length_set, List.length_set, hl], fun j c e => ?_, fun j k o ds c e1 e2 h3 h4 => ?_, fun j k e => ?_⟩
  · obtain ⟨hj, ⟨_, rfl, q⟩ | ⟨_, e, q⟩⟩ := at_ e
    · exact ⟨v, q, L.weak _ (fun i => ha i)⟩
    · obtain ⟨u, h1, h2⟩ := P.rel j c e
      exact ⟨u, q.trans h1, h2.weak _ fun k z => by rw [z] at e; exact slFree_at hs e⟩
  · obtain ⟨hj, q1⟩ := at_ e1
    obtain ⟨hk, q2⟩ := at_ e2
    -- the places in the longer lists
    rcases q1 with ⟨rfl, c1, l1⟩ | ⟨n1, m1, l1⟩ <;> rcases q2 with ⟨rfl, c2, l2⟩ | ⟨n2, m2, l2⟩
    · rfl
    · exfalso
      rw [l1, l2] at h4
      have z := S.dis m.length k o ds c (by rw [end_m, ← c1]) (by rw [(old hk).2]; exact m2) h3 (by rw [(old hk).1, ← h4, ← hl, end_l])
      omega
    · exfalso
      rw [l1, l2] at h4
      have z := S.dis j m.length o ds c (by rw [(old hj).2]; exact m1) (by rw [end_m, ← c2]) h3 (by rw [(old hj).1, h4, ← hl, end_l])
      omega
    · rw [l1, l2] at h4
      exact P.dis j k o ds c m1 m2 h3 h4
  · obtain ⟨hj, ⟨_, q, _⟩ | ⟨_, e, q⟩⟩ := at_ e
    · exact absurd q.symm (ha k)
    · exact absurd e (slFree_at hs)
/-- the heap without p -/
def hide (p : Addr) (H : Hp) : Hp := fun b => if b = p then none else H b
theorem hide_ne {p b : Addr} {H : Hp} (h : b ≠ p) : hide p H b = H b := if_neg h
theorem hide_at {p : Addr} {H : Hp} : hide p H p = none := if_pos rfl
theorem hide_same {p : Addr} {H : Hp} : Same (hide p H) H := fun b o e => by
  by_cases hb : b = p
  · subst hb
    rw [hide_at] at e
    cases e
  · rw [hide_ne hb] at e
    exact e
theorem hide_base {p : Addr} {B H : Hp} (h : Same B H) (hb : B p = none) : Same B (hide p H) := fun b o e => by
  rw [hide_ne (ne_of_none e hb)]
  exact h _ _ e
theorem hide_tsub {p : Addr} {H : Hp} {vs : List V} (h : H p = some (.lst vs)) : TSub H (hide p H) := fun a xs e => by
  rcases e with e | ⟨o, e⟩
  · exact .inl (by rw [hide_ne (ne_of e h (fun z => by cases z))]; exact e)
  · exact .inr ⟨o, by rw [hide_ne (ne_of e h (fun z => by cases z))]; exact e⟩
/-- an owned list is written -/
theorem SR.mutG (S : SR K B H l m) {i : Nat} {o : Option Addr} {ds ds' : List PyData} {p : Addr} (hi : m[i]? = some (some (.lst o ds))) (hp : l[i]? = some (some (.ref p))) (hS : Same (hide p H) H') (hL : LstAt K H' p ds') :
    SR K B H' l (m.set i (some (.lst o ds'))) := by
  obtain ⟨u, h1, p', eu, ho, hb, hn0, vs, hH, hd0⟩ := S.rel i _ hi
  rw [hp] at h1
  cases h1
  cases eu
  have T : TSub H H' := fun a xs h => tsub_same hS _ _ (hide_tsub hH _ _ h)
  have sB : Same B H' := fun b u e => hS _ _ (hide_base S.base hb _ _ e)
  have hlt : i < m.length := (List.getElem?_eq_some_iff.mp hi).1
  have at_ : ∀ {j : Nat} {c : AV}, (m.set i (some (.lst o ds')))[j]? = some (some c) → (j = i ∧ c = .lst o ds') ∨ (j ≠ i ∧ m[j]? = some (some c)) := fun {j c} e => by
    by_cases hji : i = j
    · subst hji
      rw [List.getElem?_set_self hlt] at e
      exact .inl ⟨rfl, (Option.some.inj (Option.some.inj e)).symm⟩
    · rw [List.getElem?_set_ne hji] at e
      exact .inr ⟨Ne.symm hji, e⟩
  have keepL : ∀ {j : Nat} {q : Addr} {es : List PyData}, j ≠ i → l[j]? = some (some (.ref q)) → (∃ a, m[j]? = some (some a) ∧ ((∃ o' ds', a = .lst o' ds') ∨ (∃ ds', a = .fz ds'))) → LstAt K H q es → LstAt K H' q es := fun {j q es} hj hl' ⟨a, ha, hk⟩ h => by
    obtain ⟨n, ws, hw, hd⟩ := h
    refine ⟨n, ws, hS _ _ ?_, dps_t T _ _ n hd⟩
    rw [hide_ne ?_]
    · exact hw
    · intro e
      subst e
      exact hj (S.dis i j o ds a hi ha hk (by rw [hp, hl'])).symm
  refine ⟨sB, by rw [List.length_set]; exact S.len, fun j c e => ?_, fun j k o2 ds2 c e1 e2 h3 h4 => ?_, fun j k e => ?_⟩
  · rcases at_ e with ⟨rfl, rfl⟩ | ⟨hj, e⟩
    · exact ⟨_, hp, p, rfl, ho, hb, hL⟩
    · obtain ⟨u, h1, h2⟩ := S.rel j c e
      refine ⟨u, h1, ?_⟩
      cases c with
      | dat d => exact h2.elim .inl fun h => .inr ⟨h.1, dp_t T _ _ h.1 h.2⟩
      | lst o3 es =>
        obtain ⟨q, rfl, a1, a2, a3⟩ := h2
        exact ⟨q, rfl, a1, a2, keepL hj h1 ⟨_, e, .inl ⟨_, _, rfl⟩⟩ a3⟩
      | fz es =>
        obtain ⟨q, rfl, a2, a3⟩ := h2
        exact ⟨q, rfl, a2, keepL hj h1 ⟨_, e, .inr ⟨_, rfl⟩⟩ a3⟩
      | sl k => exact h2
      | ins C fs =>
        obtain ⟨n, q, dx, ws, rfl, hq, hn2, hd2⟩ := h2
        exact ⟨n, q, dx, ws, rfl, hS _ _ (by rw [hide_ne (ne_of hq hH (fun z => by cases z))]; exact hq), hn2, dps_t T _ _ n hd2⟩
      | obj q0 C fs =>
        obtain ⟨h0, n, q, dx, ws, rfl, hq, hn2, hd2⟩ := h2
        exact ⟨h0, n, q, dx, ws, rfl, hS _ _ (by rw [hide_ne (ne_of hq hH (fun z => by cases z))]; exact hq), hn2, dps_t T _ _ n hd2⟩
  · have lk : ∀ {j : Nat} {c : AV}, (m.set i (some (.lst o ds')))[j]? = some (some c) → (∃ o' ds', c = .lst o' ds') ∨ (∃ ds', c = .fz ds') → ∃ c', m[j]? = some (some c') ∧ ((∃ o' ds', c' = .lst o' ds') ∨ (∃ ds', c' = .fz ds')) := fun {j c} e hc => by
      rcases at_ e with ⟨rfl, rfl⟩ | ⟨hj, e⟩
      · exact ⟨_, hi, .inl ⟨_, _, rfl⟩⟩
      · exact ⟨c, e, hc⟩
    obtain ⟨c2, e2', h3'⟩ := lk e2 h3
    rcases at_ e1 with ⟨rfl, q⟩ | ⟨_, e1⟩
    · exact S.dis j k o ds c2 hi e2' h3' h4
    · exact S.dis j k o2 ds2 c2 e1 e2' h3' h4
  · rcases at_ e with ⟨_, q⟩ | ⟨_, e⟩
    · cases q
    · obtain ⟨h1, o3, ds3, h2⟩ := S.back j k e
      refine ⟨h1, ?_⟩
      by_cases hk : i = k
      · subst hk
        exact ⟨o, ds', List.getElem?_set_self hlt⟩
      · exact ⟨o3, ds3, by rw [List.getElem?_set_ne hk]; exact h2⟩
theorem SR.mut (S : SR K B H l m) {i : Nat} {o : Option Addr} {ds ds' : List PyData} {p : Addr} {vs' : List V} (hi : m[i]? = some (some (.lst o ds))) (hp : l[i]? = some (some (.ref p))) (hn : noLs ds' = true) (hd : DpAll K H vs' ds') :
    SR K B (upd H p (.lst vs')) l (m.set i (some (.lst o ds'))) := by
  obtain ⟨u, h1, p', eu, ho, hb, hn0, vs, hH, hd0⟩ := S.rel i _ hi
  rw [hp] at h1
  cases h1
  cases eu
  have hS : Same (hide p H) (upd H p (.lst vs')) := fun b u e => by
    by_cases hbp : b = p
    · subst hbp
      rw [hide_at] at e
      cases e
    · rw [hide_ne hbp] at e
      rw [upd_ne hbp]
      exact e
  exact S.mutG hi hp hS ⟨hn, vs', upd_same, dps_t (fun a xs h => tsub_same hS _ _ (hide_tsub hH _ _ h)) _ _ hn hd⟩
/-- told less -/
def Le : Ab → Ab → Prop
  | [], [] => True
  | none :: xs, _ :: ys => Le xs ys
  | some a :: xs, y :: ys => y = some a ∧ Le xs ys
  | _, _ => False
theorem Le.len : ∀ {m' m : Ab}, Le m' m → m'.length = m.length
  | [], [], _ => rfl
  | none :: xs, _ :: ys, h => by rw [List.length_cons, List.length_cons, Le.len (m' := xs) (m := ys) h]
  | some a :: xs, y :: ys, h => by rw [List.length_cons, List.length_cons, Le.len (m' := xs) (m := ys) h.2]
theorem Le.at_ : ∀ {m' m : Ab} {i : Nat} {a : AV}, Le m' m → m'[i]? = some (some a) → m[i]? = some (some a)
  | [], [], _, _, _, e => by simp at e
  | none :: xs, _ :: ys, 0, _, h, e => by simp at e
  | none :: xs, _ :: ys, i + 1, _, h, e => by
    have := Le.at_ (m' := xs) (m := ys) (i := i) h (by simpa using e)
    simpa using this
  | some a :: xs, y :: ys, 0, _, h, e => by
    simp at e
    subst e
    rw [h.1]
    rfl
  | some a :: xs, y :: ys, i + 1, _, h, e => by
    have := Le.at_ (m' := xs) (m := ys) (i := i) h.2 (by simpa using e)
    simpa using this
theorem Le.refl : ∀ m : Ab, Le m m
  | [] => trivial
  | none :: xs => Le.refl xs
  | some a :: xs => ⟨rfl, Le.refl xs⟩
theorem Le.slFree {m' m : Ab} (h : Le m' m) (hs : slFree m = true) : slFree m' = true := slFree_of fun _ _ e => slFree_at hs (h.at_ e)
theorem SR.le (S : SR K B H l m) (h : Le m' m) (hs : slFree m = true) : SR K B H l m' :=
  S.to (S.len.trans h.len.symm) (fun _ _ e => h.at_ e) (fun _ _ _ => rfl) fun _ _ e => absurd (h.at_ e) (slFree_at hs)
theorem Le.app {m' m r : Ab} (h : Le m' m) : Le (m' ++ r) (m ++ r) := by
  induction m' generalizing m with
  | nil =>
    cases m with
    | nil => exact Le.refl _
    | cons y ys => exact h.elim
  | cons x xs ih =>
    cases m with
    | nil => cases x <;> exact h.elim
    | cons y ys =>
      cases x with
      | none => exact ih h
      | some a => exact ⟨h.1, ih h.2⟩
theorem SR.len2 {σ gs : St} {δ δ1 γ : Ab} (hl : σ.length = δ.length) (S : SR K B H (σ ++ gs) (δ ++ γ)) (S1 : SR K B H' (σ ++ gs) (δ1 ++ γ)) : σ.length = δ1.length := by
  have h1 := S.len
  have h2 := S1.len
  rw [List.length_append, List.length_append] at h1 h2
  omega
theorem SR.len3 {σ gs : St} {δ δ1 γ : Ab} {x : Option V} {y : Option AV} (hl : σ.length = δ.length) (S : SR K B H (σ ++ gs) (δ ++ γ)) (S1 : SR K B H' (σ ++ gs ++ [x]) (δ1 ++ γ ++ [y])) : σ.length = δ1.length := S.len2 hl S1.pop
end

/-! ### a value's view as data -/
def lview : Option (Option AV) → Option PyData
  | some (some (.lst _ ds)) => some (.list ds)
  | _ => none
theorem lview_some {q : Option (Option AV)} {d : PyData} (h : lview q = some d) : ∃ o ds, q = some (some (.lst o ds)) ∧ d = .list ds := by
  unfold lview at h
  split at h
  · cases h
    exact ⟨_, _, rfl, rfl⟩
  · cases h
def view (m : Ab) : AV → Option PyData
  | .dat d => some d
  | .lst _ ds => some (.list ds)
  | .fz ds => some (.list ds)
  | .sl i => lview m[i]?
  | .ins _ _ => none
  | .obj _ _ _ => none
/-- what stays of an item whatever is written -/
def Stay (K : PySem.W.Frag) (B H : Hp) (v : V) (d : PyData) : Prop := Dp K B v d ∨ (noL d = true ∧ Dp K H v d)
def Items (K : PySem.W.Frag) (B H : Hp) (vs : List V) (ds : List PyData) : Prop := DpAll K H vs ds ∧ ∀ (i : Nat) v d, vs[i]? = some v → ds[i]? = some d → Stay K B H v d
section
variable {K : PySem.W.Frag} {B H H' : Hp} {l l' : St} {m m' : Ab} {a : AV} {v x : V} {d : PyData}
theorem items_no {vs : List V} {ds : List PyData} (n : noLs ds = true) (h : DpAll K H vs ds) : Items K B H vs ds := ⟨h, fun i v d h1 h2 => by
  obtain ⟨d', e, q⟩ := dps_getV h h1
  rw [h2] at e
  cases e
  exact .inr ⟨noLs_mem n (List.mem_of_getElem? h2), q⟩⟩
theorem items_base {vs : List V} {ds : List PyData} (e : Same B H) (h : DpAll K B vs ds) : Items K B H vs ds := ⟨dps_same e _ _ h, fun i v d h1 h2 => by
  obtain ⟨d', e, q⟩ := dps_getV h h1
  rw [h2] at e
  cases e
  exact .inl q⟩
theorem lstAt_sq {p : Addr} {ds : List PyData} (h : LstAt K H p ds) : ∃ vs, SqL K H p vs ∧ Items K B H vs ds := by
  obtain ⟨n, vs, hp, hd⟩ := h
  exact ⟨vs, SqL.of hp, items_no n hd⟩
/-- what a view tells -/
theorem SR.list (S : SR K B H l m) (h : Rl K B H l v a) (hv : view m a = some (.list (ds : List PyData))) : ∃ p vs, v = .ref p ∧ SqL K H p vs ∧ Items K B H vs ds := by
  cases a with
  | dat d =>
    cases hv
    rcases h with h | ⟨n, _⟩
    · cases h with
      | lst hs ha => exact ⟨_, _, rfl, S.base.seq hs, items_base S.base ha⟩
    · cases n
  | lst o es =>
    cases hv
    obtain ⟨p, rfl, _, _, h⟩ := h
    obtain ⟨vs, h1, h2⟩ := lstAt_sq (B := B) h
    exact ⟨p, vs, rfl, h1, h2⟩
  | fz es =>
    cases hv
    obtain ⟨p, rfl, _, h⟩ := h
    obtain ⟨vs, h1, h2⟩ := lstAt_sq (B := B) h
    exact ⟨p, vs, rfl, h1, h2⟩
  | sl i =>
    have h : l[i]? = some (some v) := h
    obtain ⟨o, es, e, q⟩ := lview_some (q := m[i]?) hv
    cases q
    obtain ⟨u, h1, p, rfl, _, _, h2⟩ := S.rel i _ e
    rw [h] at h1
    cases h1
    obtain ⟨vs, h1, h2⟩ := lstAt_sq (B := B) h2
    exact ⟨p, vs, rfl, h1, h2⟩
  | ins C fs => cases hv
  | obj q0 C fs => cases hv
theorem SR.tuple (S : SR K B H l m) (h : Rl K B H l v a) (hv : view m a = some (.tuple (ds : List PyData))) : ∃ p vs, v = .ref p ∧ SqT K H p vs ∧ Items K B H vs ds := by
  cases a with
  | dat d =>
    cases hv
    rcases h with h | ⟨n, h⟩
    · cases h with
      | tup hs ha => exact ⟨_, _, rfl, sqt_same S.base hs, items_base S.base ha⟩
    · cases h with
      | tup hs ha => exact ⟨_, _, rfl, hs, items_no n ha⟩
  | lst o es => cases hv
  | fz es => cases hv
  | sl i =>
    obtain ⟨o, es, e, q⟩ := lview_some (q := m[i]?) hv
    cases q
  | ins C fs => cases hv
  | obj q0 C fs => cases hv
theorem SR.dp (S : SR K B H l m) (h : Rl K B H l v a) (hv : view m a = some d) : Dp K H v d := by
  cases a with
  | dat d =>
    cases hv
    exact h.elim (fun h => dp_same S.base _ _ h) fun h => h.2
  | lst o es =>
    cases hv
    obtain ⟨p, vs, rfl, h1, h2⟩ := S.list (a := .lst o es) h rfl
    exact .lst h1 h2.1
  | fz es =>
    cases hv
    obtain ⟨p, vs, rfl, h1, h2⟩ := S.list (a := .fz es) h rfl
    exact .lst h1 h2.1
  | sl i =>
    obtain ⟨o, es, e, q⟩ := lview_some (q := m[i]?) hv
    cases q
    obtain ⟨p, vs, rfl, h1, h2⟩ := S.list (a := .sl i) h hv
    exact .lst h1 h2.1
  | ins C fs => cases hv
  | obj q0 C fs => cases hv
theorem view_app {r : Ab} {d : PyData} (h : view m a = some d) : view (m ++ r) a = some d := by
  cases a with
  | sl i =>
    obtain ⟨o, es, e, q⟩ := lview_some (q := m[i]?) h
    show lview (m ++ r)[i]? = some d
    rw [getq_append_left' e, q]
    rfl
  | _ => exact h
theorem int_of {i : Int} (h : Rl K B H l v (.dat (.int i))) : v = .int i := by
  rcases h with h | h
  · cases h; rfl
  · cases h.2; rfl
theorem bool_of {i : Bool} (h : Rl K B H l v (.dat (.bool i))) : v = .bl i := by
  rcases h with h | h
  · cases h; rfl
  · cases h.2; rfl
theorem none_of (h : Rl K B H l v (.dat .none)) : v = .non := by
  rcases h with h | h
  · cases h; rfl
  · cases h.2; rfl
theorem rl_int {i : Int} : Rl K B H l (.int i) (.dat (.int i)) := .inl (.int i)
theorem rl_bool {i : Bool} : Rl K B H l (.bl i) (.dat (.bool i)) := .inl (.bl i)
theorem rl_none : Rl K B H l .non (.dat .none) := .inl .non
theorem dps_atI : ∀ {vs : List V} {ds : List PyData} {i : Int} {d : PyData}, DpAll K H vs ds → atI ds i = some d → ∃ (j : Nat) (v : V), atI vs i = some v ∧ vs[j]? = some v ∧ ds[j]? = some d := fun {vs ds i d} h e => by
  unfold atI at e ⊢
  rw [← dps_len h] at e
  cases q : ixN vs.length i with
  | none => rw [q] at e; cases e
  | some j =>
    rw [q] at e
    have e : ds[j]? = some d := e
    obtain ⟨v, h1, h2⟩ := dps_get h e
    exact ⟨j, v, h1, h1, e⟩
end
end G
end FW2
section FW3
set_option Elab.async false
set_option linter.all false
set_option maxRecDepth 100000
set_option maxHeartbeats 4000000
namespace G
open PySem L2

/-! ### the judgements: readings told by data -/
/-- an expression: from what the slots hold (δ), a value a, and what they hold behind it -/
def tE (K : PySem.W.Frag) (δ : Ab) (a : AV) (δ' : Ab) : TE := fun σ H Q => ∃ (B : Hp) (gs : L2.St) (γ : Ab), σ.length = δ.length ∧ SR K B H (σ ++ gs) (δ ++ γ) ∧
  ∀ v H2, SR K B H2 (σ ++ gs ++ [some v]) (δ' ++ γ ++ [some a]) → Q v H2
def tT (K : PySem.W.Frag) (δ : Ab) (b : Bool) (δ' : Ab) : TT := fun σ H Q => ∃ (B : Hp) (gs : L2.St) (γ : Ab), σ.length = δ.length ∧ SR K B H (σ ++ gs) (δ ++ γ) ∧
  ∀ H2, SR K B H2 (σ ++ gs) (δ' ++ γ) → Q b H2
def tA (K : PySem.W.Frag) (δ : Ab) (as : List AV) (δ' : Ab) : TA := fun σ H Q => ∃ (B : Hp) (gs : L2.St) (γ : Ab), σ.length = δ.length ∧ SR K B H (σ ++ gs) (δ ++ γ) ∧
  ∀ vs H2, vs.length = as.length → SR K B H2 (σ ++ gs ++ vs.map some) (δ' ++ γ ++ as.map some) → Q vs H2
inductive Out where
  | nx (δ : Ab)
  | ret (a : AV) (δ : Ab)
/-- what may stand behind the slots while statements run -/
def frOk (m : Ab) : Bool := m.all fun
  | some (.sl _) => false
  | some (.ins _ _) => false
  | some (.obj _ _ _) => false
  | _ => true
theorem frOk_sl {m : Ab} (h : frOk m = true) : slFree m = true := List.all_eq_true.mpr fun x hx => by
  have := List.all_eq_true.mp h x hx
  cases x with
  | none => rfl
  | some a => cases a <;> first | rfl | cases this
theorem slApp {δ γ : Ab} (h1 : slFree δ = true) (h2 : frOk γ = true) : slFree (δ ++ γ) = true := by rw [slFree_app, h1, frOk_sl h2]; rfl
def Fin (K : PySem.W.Frag) (B : Hp) (gs : L2.St) (γ : Ab) (D : Ends) : Out → Prop
  | .nx δ' => ∀ σ' H', σ'.length = δ'.length → slFree δ' = true → SR K B H' (σ' ++ gs) (δ' ++ γ) → D.nx σ' H'
  | .ret a δ' => ∀ σ' v H', σ'.length = δ'.length → SR K B H' (σ' ++ gs ++ [some v]) (δ' ++ γ ++ [some a]) → D.rt v H'
def tS (K : PySem.W.Frag) (δ : Ab) (o : Out) : TS := fun D σ H => ∃ (B : Hp) (gs : L2.St) (γ : Ab), σ.length = δ.length ∧ slFree δ = true ∧ frOk γ = true ∧ SR K B H (σ ++ gs) (δ ++ γ) ∧ Fin K B gs γ D o

abbrev E (X : Cx) (e : Expr) (δ : Ab) (a : AV) (δ' : Ab) : Prop := PE X e (tE X.K δ a δ')
abbrev T (X : Cx) (e : Expr) (δ : Ab) (b : Bool) (δ' : Ab) : Prop := PT X e (tT X.K δ b δ')
abbrev W (X : Cx) (e : Expr) (δ : Ab) (b : Bool) (δ' : Ab) : Prop := PW X e (tT X.K δ b δ')
abbrev A (X : Cx) (es : List Expr) (δ : Ab) (as : List AV) (δ' : Ab) : Prop := PA X es (tA X.K δ as δ')
abbrev S (X : Cx) (st : Stmt) (δ : Ab) (o : Out) : Prop := PS X st (tS X.K δ o)
abbrev Ss (X : Cx) (sts : List Stmt) (δ : Ab) (o : Out) : Prop := PSs X sts (tS X.K δ o)

theorem pe_of {X : Cx} {e : Expr} {t t0 : TE} (h : PE X e t0) (m : ∀ σ H Q, t σ H Q → t0 σ H Q) : PE X e t := ⟨fun pins s σ H Q I q => h.run pins s σ H Q I (m σ H Q q)⟩
theorem pt_of {X : Cx} {e : Expr} {t t0 : TT} (h : PT X e t0) (m : ∀ σ H Q, t σ H Q → t0 σ H Q) : PT X e t := ⟨fun pins s σ H Q I q => h.run pins s σ H Q I (m σ H Q q)⟩
theorem pw_of {X : Cx} {e : Expr} {t t0 : TT} (h : PW X e t0) (m : ∀ σ H Q, t σ H Q → t0 σ H Q) : PW X e t := ⟨fun wh pins s σ H Q I q => h.run wh pins s σ H Q I (m σ H Q q)⟩
theorem pa_of {X : Cx} {es : List Expr} {t t0 : TA} (h : PA X es t0) (m : ∀ σ H Q, t σ H Q → t0 σ H Q) : PA X es t := ⟨fun pos pins s σ H Q I q => h.run pos pins s σ H Q I (m σ H Q q)⟩
theorem ps_of {X : Cx} {e : Stmt} {t t0 : TS} (h : PS X e t0) (m : ∀ D σ H, t D σ H → t0 D σ H) : PS X e t := ⟨fun pins s σ H D I q => h.run pins s σ H D I (m D σ H q)⟩
theorem pss_of {X : Cx} {e : List Stmt} {t t0 : TS} (h : PSs X e t0) (m : ∀ D σ H, t D σ H → t0 D σ H) : PSs X e t := ⟨fun pins s σ H D I q => h.run pins s σ H D I (m D σ H q)⟩

section
variable {X : Cx} {δ δ1 δ2 δ3 : Ab} {a b c : AV} {e e1 e2 e3 : Expr} {pos p p1 : Pos} {as : List AV}

theorem E.cast {a' : AV} (h : E X e δ a δ1) (q : a = a') : E X e δ a' δ1 := q ▸ h
theorem T.cast {b b' : Bool} (h : T X e δ b δ1) (q : b = b') : T X e δ b' δ1 := q ▸ h

/-- two readings in a row -/
theorem bind2 {K : PySem.W.Frag} {σ : L2.St} {H : Hp} {R : V → V → Hp → Prop} {B : Hp} {gs : L2.St} {γ : Ab} (hl : σ.length = δ.length) (S0 : SR K B H (σ ++ gs) (δ ++ γ))
    (h : ∀ x y H2, SR K B H2 (σ ++ gs ++ [some x] ++ [some y]) (δ2 ++ γ ++ [some a] ++ [some b]) → R x y H2) : tE K δ a δ1 σ H fun x H1 => tE K δ1 b δ2 σ H1 fun y H2 => R x y H2 :=
  ⟨B, gs, γ, hl, S0, fun x H1 S1 => ⟨B, gs ++ [some x], γ ++ [some a], SR.len3 hl S0 S1, by rw [← List.append_assoc, ← List.append_assoc]; exact S1, fun y H2 S2 => h x y H2 (by
    rw [← List.append_assoc, ← List.append_assoc] at S2
    exact S2)⟩⟩
/-- an operation on values: m is what stands, δ a part of it -/
def OpX (K : PySem.W.Frag) (r : R2) (δ : Ab) (a b c : AV) : Prop := ∀ (B H : Hp) (l : L2.St) (m : Ab) (x y : V) (Q : VK), (∀ (i : Nat) q, δ[i]? = some q → m[i]? = some q) → SR K B H (l ++ [some x] ++ [some y]) (m ++ [some a] ++ [some b]) →
  (∀ z H2, SR K B H2 (l ++ [some z]) (m ++ [some c]) → Q z H2) → r x y H Q
def UnX (K : PySem.W.Frag) (r : V → Hp → VK → Prop) (δ : Ab) (a c : AV) : Prop := ∀ (B H : Hp) (l : L2.St) (m : Ab) (x : V) (Q : VK), (∀ (i : Nat) q, δ[i]? = some q → m[i]? = some q) → SR K B H (l ++ [some x]) (m ++ [some a]) →
  (∀ z H2, SR K B H2 (l ++ [some z]) (m ++ [some c]) → Q z H2) → r x H Q
theorem view_sub {δ m : Ab} {a : AV} {d : PyData} (h : ∀ (i : Nat) q, δ[i]? = some q → m[i]? = some q) (hv : view δ a = some d) : view m a = some d := by
  cases a with
  | sl i =>
    obtain ⟨o, ds, e, q⟩ := lview_some (q := δ[i]?) hv
    show lview m[i]? = some d
    rw [h _ _ e, q]
    rfl
  | _ => exact hv
theorem sub_app {δ γ : Ab} : ∀ (i : Nat) q, δ[i]? = some q → (δ ++ γ)[i]? = some q := fun i q h => getq_append_left' h

theorem e_op {op : Operator} {r : R2} (ho : OpR X (binaryOp op) r) (ha : E X e1 δ a δ1) (hb : E X e2 δ1 b δ2) (h : OpX X.K r δ2 a b c) : E X (.BinOp e1 op e2 pos) δ c δ2 :=
  pe_of (pe_op ho ha hb) fun σ H Q ⟨B, gs, γ, hl, S0, k⟩ => bind2 hl S0 fun x y H2 S2 => h B H2 _ _ x y Q sub_app S2 fun z H3 S3 => k z H3 S3
theorem e_cmp {op : CmpOp} {r : R2} (ho : OpR X (compareOp op) r) (ha : E X e1 δ a δ1) (hb : E X e2 δ1 b δ2) (h : OpX X.K r δ2 a b c) (hm : behindInMarks op e2 = false) : E X (.Compare e1 [op] [e2] pos) δ c δ2 :=
  pe_of (pe_cmpR ho ha hb hm) fun σ H Q ⟨B, gs, γ, hl, S0, k⟩ => bind2 hl S0 fun x y H2 S2 => h B H2 _ _ x y Q sub_app S2 fun z H3 S3 => k z H3 S3
theorem t_cmp {op : CmpOp} {r : R2} {b0 : Bool} (ho : OpR X (compareOp op) r) (ha : E X e1 δ a δ1) (hb : E X e2 δ1 b δ2) (h : OpX X.K r δ2 a b (.dat (.bool b0))) (hm : behindInMarks op e2 = false) : T X (.Compare e1 [op] [e2] pos) δ b0 δ2 :=
  pt_of (pt_cmpR ho ha hb hm) fun σ H Q ⟨B, gs, γ, hl, S0, k⟩ => bind2 hl S0 fun x y H2 S2 => h B H2 _ _ x y _ sub_app S2 fun z H3 S3 => ⟨b0, bool_of S3.last, k H3 S3.pop⟩
theorem e_un {op : UnaryOp} {r : V → Hp → VK → Prop} (ho : UnR X (unaryOp op) r) (ha : E X e1 δ a δ1) (h : UnX X.K r δ1 a c) : E X (.UnaryOp op e1 pos) δ c δ1 :=
  pe_of (pe_un ho ha) fun σ H Q ⟨B, gs, γ, hl, S0, k⟩ => ⟨B, gs, γ, hl, S0, fun x H1 S1 => h B H1 _ _ x Q sub_app S1 fun z H3 S3 => k z H3 S3⟩

/-! ### names, constants -/
theorem e_var (i : Nat) {x : Str} (ha : δ[i]? = some (some a)) (hp : a.plain = true) (hN : X.N[i]? = some x := by rfl) (hv : Vis X.env.scope x := by first | exact Or.inl rfl | exact Or.inr (Or.inl rfl) | exact Or.inr (Or.inr rfl))
    (hd : (x == ("__debug__" : Str)) = false := by decide) (hcd : (x == ("__classdict__" : Str)) = false := by decide) : E X (.Name x pos) δ a δ :=
  pe_of (pe_var hN hv hd hcd) fun σ H Q ⟨B, gs, γ, hl, S0, k⟩ => by
    obtain ⟨v, h1, h2⟩ := S0.rel i a (getq_append_left' ha)
    have hi : i < σ.length := by
      rw [hl]
      exact (List.getElem?_eq_some_iff.mp ha).1
    refine ⟨v, by rw [List.getElem?_append_left hi] at h1; exact h1, k v H (S0.pushP h2 hp)⟩
theorem e_varF (i : Nat) {x : Str} {ds : List PyData} (ha : δ[i]? = some (some (.fz ds))) (hN : X.N[i]? = some x := by rfl) (hv : Vis X.env.scope x := by first | exact Or.inl rfl | exact Or.inr (Or.inl rfl) | exact Or.inr (Or.inr rfl))
    (hd : (x == ("__debug__" : Str)) = false := by decide) (hcd : (x == ("__classdict__" : Str)) = false := by decide) : E X (.Name x pos) δ (.fz ds) δ :=
  pe_of (pe_var hN hv hd hcd) fun σ H Q ⟨B, gs, γ, hl, S0, k⟩ => by
    obtain ⟨v, h1, h2⟩ := S0.rel i _ (getq_append_left' ha)
    have hi : i < σ.length := by
      rw [hl]
      exact (List.getElem?_eq_some_iff.mp ha).1
    refine ⟨v, by rw [List.getElem?_append_left hi] at h1; exact h1, k v H (S0.push h2 (fun o ds e => by cases e) fun ds' _ j o' ds'' hj hlj => ?_)⟩
    have z := S0.dis j i o' ds'' (.fz ds) hj (getq_append_left' ha) (.inr ⟨ds, rfl⟩) (hlj.trans h1.symm)
    subst z
    rw [getq_append_left' ha] at hj
    cases hj
theorem e_varS (i : Nat) {x : Str} {o : Option Addr} {ds : List PyData} (ha : δ[i]? = some (some (.lst o ds))) (hN : X.N[i]? = some x := by rfl) (hv : Vis X.env.scope x := by first | exact Or.inl rfl | exact Or.inr (Or.inl rfl) | exact Or.inr (Or.inr rfl))
    (hd : (x == ("__debug__" : Str)) = false := by decide) (hcd : (x == ("__classdict__" : Str)) = false := by decide) : E X (.Name x pos) δ (.sl i) δ :=
  pe_of (pe_var hN hv hd hcd) fun σ H Q ⟨B, gs, γ, hl, S0, k⟩ => by
    obtain ⟨v, h1, h2⟩ := S0.rel i _ (getq_append_left' ha)
    have hi : i < σ.length := by
      rw [hl]
      exact (List.getElem?_eq_some_iff.mp ha).1
    exact ⟨v, by rw [List.getElem?_append_left hi] at h1; exact h1, k v H (S0.pushS h1 ⟨_, _, getq_append_left' ha⟩)⟩
theorem e_const {v : V} {d : PyData} (h : PE X e (tC v)) (hd : ∀ H : Hp, Dp X.K H v d) : E X e δ (.dat d) δ :=
  pe_of h fun σ H Q ⟨B, gs, γ, hl, S0, k⟩ => k v H (S0.pushP (a := .dat d) (.inl (hd B)) rfl)
theorem e_int {i : Int} {j} : E X (.Constant (.int i) j pos) δ (.dat (.int i)) δ := e_const pe_int fun _ => .int i
theorem e_bool {i : Bool} {j} : E X (.Constant (.bool i) j pos) δ (.dat (.bool i)) δ := e_const pe_bl fun _ => .bl i
theorem e_none {j} : E X (.Constant .none j pos) δ (.dat .none) δ := e_const pe_non fun _ => .non
/-- a global constant -/
theorem e_glob {x : Str} {v : V} {u : Value} {d : PyData} (hd : ∀ H : Hp, Dp X.K H v d) (hm : X.mg x = some u) (r : RelV v u) (hg : Gl X x := by rfl) (hdb : (x == ("__debug__" : Str)) = false := by decide) : E X (.Name x pos) δ (.dat d) δ := e_const (pe_glob hg hm r hdb) hd

/-! ### whole numbers -/
theorem ox_I0 {K : PySem.W.Frag} {g : Int → Int → Int} {i j : Int} : OpX K (rI0 fun i j => .int (g i j)) δ (.dat (.int i)) (.dat (.int j)) (.dat (.int (g i j))) := fun B H l m x y Q _ S k =>
  ⟨i, j, int_of S.pop.last, int_of S.last, k _ _ (S.pop.pop.pushP rl_int rfl)⟩
theorem ox_I {K : PySem.W.Frag} {C : Int → Int → Prop} {g : Int → Int → Int} {i j : Int} (hc : C i j) : OpX K (rI C fun i j => .int (g i j)) δ (.dat (.int i)) (.dat (.int j)) (.dat (.int (g i j))) := fun B H l m x y Q _ S k =>
  ⟨i, j, int_of S.pop.last, int_of S.last, hc, k _ _ (S.pop.pop.pushP rl_int rfl)⟩
theorem ox_B {K : PySem.W.Frag} {g : Int → Int → Bool} {i j : Int} : OpX K (rI0 fun i j => .bl (g i j)) δ (.dat (.int i)) (.dat (.int j)) (.dat (.bool (g i j))) := fun B H l m x y Q _ S k =>
  ⟨i, j, int_of S.pop.last, int_of S.last, k _ _ (S.pop.pop.pushP rl_bool rfl)⟩
theorem e_add {i j : Int} (ha : E X e1 δ (.dat (.int i)) δ1) (hb : E X e2 δ1 (.dat (.int j)) δ2) : E X (.BinOp e1 .Add e2 pos) δ (.dat (.int (i + j))) δ2 := e_op op_add ha hb ox_I0
theorem e_sub {i j : Int} (ha : E X e1 δ (.dat (.int i)) δ1) (hb : E X e2 δ1 (.dat (.int j)) δ2) : E X (.BinOp e1 .Sub e2 pos) δ (.dat (.int (i - j))) δ2 := e_op op_sub ha hb ox_I0
theorem e_mul {i j : Int} (ha : E X e1 δ (.dat (.int i)) δ1) (hb : E X e2 δ1 (.dat (.int j)) δ2) (h : CMulW i j) : E X (.BinOp e1 .Mult e2 pos) δ (.dat (.int (i * j))) δ2 := e_op op_mulW ha hb (ox_I h)
theorem e_div {i j : Int} (ha : E X e1 δ (.dat (.int i)) δ1) (hb : E X e2 δ1 (.dat (.int j)) δ2) (h : CDivW i j) : E X (.BinOp e1 .FloorDiv e2 pos) δ (.dat (.int (i / j))) δ2 := e_op op_fdivW ha hb (ox_I h)
theorem e_mod {i j : Int} (ha : E X e1 δ (.dat (.int i)) δ1) (hb : E X e2 δ1 (.dat (.int j)) δ2) (h : 0 < j) : E X (.BinOp e1 .Mod e2 pos) δ (.dat (.int (i % j))) δ2 := e_op op_mod ha hb (ox_I h)
theorem e_pow {i j : Int} (ha : E X e1 δ (.dat (.int i)) δ1) (hb : E X e2 δ1 (.dat (.int j)) δ2) (h : CPow i j) : E X (.BinOp e1 .Pow e2 pos) δ (.dat (.int (i ^ j.toNat))) δ2 := e_op op_pow ha hb (ox_I h)
theorem e_neg {i : Int} (ha : E X e1 δ (.dat (.int i)) δ1) : E X (.UnaryOp .USub e1 pos) δ (.dat (.int (-i))) δ1 := e_un un_neg ha fun B H l m x Q _ S k => ⟨i, int_of S.last, k _ _ (S.pop.pushP rl_int rfl)⟩
theorem e_lt {i j : Int} (ha : E X e1 δ (.dat (.int i)) δ1) (hb : E X e2 δ1 (.dat (.int j)) δ2) : E X (.Compare e1 [.Lt] [e2] pos) δ (.dat (.bool (decide (i < j)))) δ2 := e_cmp op_lt ha hb ox_B (nomark _)
theorem e_gt {i j : Int} (ha : E X e1 δ (.dat (.int i)) δ1) (hb : E X e2 δ1 (.dat (.int j)) δ2) : E X (.Compare e1 [.Gt] [e2] pos) δ (.dat (.bool (decide (j < i)))) δ2 := e_cmp op_gt ha hb ox_B (nomark _)
theorem t_lt {i j : Int} (ha : E X e1 δ (.dat (.int i)) δ1) (hb : E X e2 δ1 (.dat (.int j)) δ2) : T X (.Compare e1 [.Lt] [e2] pos) δ (decide (i < j)) δ2 := t_cmp op_lt ha hb ox_B (nomark _)
theorem t_gt {i j : Int} (ha : E X e1 δ (.dat (.int i)) δ1) (hb : E X e2 δ1 (.dat (.int j)) δ2) : T X (.Compare e1 [.Gt] [e2] pos) δ (decide (j < i)) δ2 := t_cmp op_gt ha hb ox_B (nomark _)
/-- == and != of whole numbers, truth values, None -/
def flatD : PyData → PyData → Option Bool
  | .int i, .int j => some (decide (i = j))
  | _, _ => none
theorem ox_eq {K : PySem.W.Frag} {i j : Int} : OpX K rEq δ (.dat (.int i)) (.dat (.int j)) (.dat (.bool (decide (i = j)))) := fun B H l m x y Q _ S k => by
  rw [int_of S.pop.last, int_of S.last]
  refine ⟨rfl, ?_⟩
  have e : decide (V.int i = V.int j) = decide (i = j) := by
    by_cases h : i = j
    · rw [h]; simp
    · rw [decide_eq_false h, decide_eq_false fun q => h (V.int.inj q)]
  rw [e]
  exact k _ _ (S.pop.pop.pushP rl_bool rfl)
theorem ox_ne {K : PySem.W.Frag} {i j : Int} : OpX K rNe δ (.dat (.int i)) (.dat (.int j)) (.dat (.bool (!decide (i = j)))) := fun B H l m x y Q _ S k => by
  rw [int_of S.pop.last, int_of S.last]
  refine ⟨rfl, ?_⟩
  have e : decide (V.int i = V.int j) = decide (i = j) := by
    by_cases h : i = j
    · rw [h]; simp
    · rw [decide_eq_false h, decide_eq_false fun q => h (V.int.inj q)]
  rw [e]
  exact k _ _ (S.pop.pop.pushP rl_bool rfl)
theorem e_eqI {i j : Int} (ha : E X e1 δ (.dat (.int i)) δ1) (hb : E X e2 δ1 (.dat (.int j)) δ2) : E X (.Compare e1 [.Eq] [e2] pos) δ (.dat (.bool (decide (i = j)))) δ2 := e_cmp op_eq ha hb ox_eq (nomark _)
theorem t_eqI {i j : Int} (ha : E X e1 δ (.dat (.int i)) δ1) (hb : E X e2 δ1 (.dat (.int j)) δ2) : T X (.Compare e1 [.Eq] [e2] pos) δ (decide (i = j)) δ2 := t_cmp op_eq ha hb ox_eq (nomark _)
theorem t_neI {i j : Int} (ha : E X e1 δ (.dat (.int i)) δ1) (hb : E X e2 δ1 (.dat (.int j)) δ2) : T X (.Compare e1 [.NotEq] [e2] pos) δ (!decide (i = j)) δ2 := t_cmp op_ne ha hb ox_ne (nomark _)
/-- == and != of data at any depth -/
theorem ox_eqD {K : PySem.W.Frag} {d1 d2 : PyData} (h1 : view δ a = some d1) (h2 : view δ b = some d2) (s1 : SeqAt.shaped d1 = true) (s2 : SeqAt.shaped d2 = true) : OpX K (rEqD K) δ a b (.dat (.bool (PyData.eqv d1 d2))) := fun B H l m x y Q hs S k =>
  ⟨d1, d2, S.pop.dp S.pop.last (view_app (view_sub hs h1)), S.dp S.last (view_app (view_app (view_sub hs h2))), s1, s2, k _ _ (S.pop.pop.pushP rl_bool rfl)⟩
theorem ox_neD {K : PySem.W.Frag} {d1 d2 : PyData} (h1 : view δ a = some d1) (h2 : view δ b = some d2) (s1 : SeqAt.shaped d1 = true) (s2 : SeqAt.shaped d2 = true) : OpX K (rNeD K) δ a b (.dat (.bool (!PyData.eqv d1 d2))) := fun B H l m x y Q hs S k =>
  ⟨d1, d2, S.pop.dp S.pop.last (view_app (view_sub hs h1)), S.dp S.last (view_app (view_app (view_sub hs h2))), s1, s2, k _ _ (S.pop.pop.pushP rl_bool rfl)⟩
theorem ox_notInD {K : PySem.W.Frag} {d1 : PyData} {ds : List PyData} (h1 : view δ a = some d1) (h2 : view δ b = some (.list ds)) (s1 : SeqAt.shaped d1 = true) (s2 : SeqAt.shaped (.list ds) = true) :
    OpX K (rNotInD K) δ a b (.dat (.bool (!ds.any fun z => PyData.eqv z d1))) := fun B H l m x y Q hs S k =>
  ⟨d1, ds, S.pop.dp S.pop.last (view_app (view_sub hs h1)), S.dp S.last (view_app (view_app (view_sub hs h2))), s1, s2, k _ _ (S.pop.pop.pushP rl_bool rfl)⟩
/-- is None -/
def isNone : PyData → Bool
  | .none => true
  | _ => false
theorem e_isN {d : PyData} (ha : E X e1 δ (.dat d) δ1) (b0 : Bool) (hb : isNone d = b0 := by rfl) {j} : E X (.Compare e1 [.Is] [.Constant .none j p1] pos) δ (.dat (.bool b0)) δ1 :=
  pe_of (pe_cmp (pc_isN ha) (nomark _)) fun σ H Q ⟨B, gs, γ, hl, S0, k⟩ => ⟨B, gs, γ, hl, S0, fun x H1 S1 => by
    have e : decide (x = V.non) = b0 := by
      rcases S1.last with h | h
      · cases h <;> (rw [← hb]; rfl)
      · cases h.2 <;> (rw [← hb]; rfl)
    show Q (V.bl (decide (x = V.non))) H1
    rw [e]
    exact k _ _ (S1.pop.pushP rl_bool rfl)⟩
theorem e_notN {d : PyData} (ha : E X e1 δ (.dat d) δ1) (b0 : Bool) (hb : (!isNone d) = b0 := by rfl) {j} : E X (.Compare e1 [.IsNot] [.Constant .none j p1] pos) δ (.dat (.bool b0)) δ1 :=
  pe_of (pe_cmp (pc_notN ha) (nomark _)) fun σ H Q ⟨B, gs, γ, hl, S0, k⟩ => ⟨B, gs, γ, hl, S0, fun x H1 S1 => by
    have e : (!decide (x = V.non)) = b0 := by
      rcases S1.last with h | h
      · cases h <;> (rw [← hb]; rfl)
      · cases h.2 <;> (rw [← hb]; rfl)
    show Q (V.bl (!decide (x = V.non))) H1
    rw [e]
    exact k _ _ (S1.pop.pushP rl_bool rfl)⟩

/-! ### tests -/
theorem t_val (h : E X e δ (.dat (.bool b0)) δ1) (he : ∀ whole, isTrue e X.env whole = (do let v ← whole; standAt e.pos; holding [v] (truthy v)) := by intro _; rfl) : T X e δ b0 δ1 :=
  pt_of (L2.pt_val h he) fun σ H Q ⟨B, gs, γ, hl, S0, k⟩ => ⟨B, gs, γ, hl, S0, fun x H1 S1 => ⟨b0, bool_of S1.last, k H1 S1.pop⟩⟩
theorem t_not {b0 : Bool} (h : T X e δ b0 δ1) : T X (.UnaryOp .Not e pos) δ (!b0) δ1 :=
  pt_of (pt_not h) fun σ H Q ⟨B, gs, γ, hl, S0, k⟩ => ⟨B, gs, γ, hl, S0, fun H1 S1 => k H1 S1⟩
theorem w_and1 {b0 : Bool} (h : T X e δ b0 δ1) : W X (.BoolOp .And [e] pos) δ b0 δ1 := pw_and1 h
theorem w_or1 {b0 : Bool} (h : T X e δ b0 δ1) : W X (.BoolOp .Or [e] pos) δ b0 δ1 := pw_or1 h
theorem w_andT {rest : List Expr} {b0 : Bool} (h : T X e δ true δ1) (h2 : W X (.BoolOp .And (e2 :: rest) pos) δ1 b0 δ2) : W X (.BoolOp .And (e :: e2 :: rest) pos) δ b0 δ2 :=
  pw_of (pw_and h h2) fun σ H Q ⟨B, gs, γ, hl, S0, k⟩ => ⟨B, gs, γ, hl, S0, fun H1 S1 => iteT ⟨B, gs, γ, SR.len2 hl S0 S1, S1, k⟩⟩
theorem w_andF {rest : List Expr} {t2 : TT} (h : T X e δ false δ1) (h2 : PW X (.BoolOp .And (e2 :: rest) pos) t2) : W X (.BoolOp .And (e :: e2 :: rest) pos) δ false δ1 :=
  pw_of (pw_and h h2) fun σ H Q ⟨B, gs, γ, hl, S0, k⟩ => ⟨B, gs, γ, hl, S0, fun H1 S1 => iteF (k H1 S1)⟩
theorem w_orF {rest : List Expr} {b0 : Bool} (h : T X e δ false δ1) (h2 : W X (.BoolOp .Or (e2 :: rest) pos) δ1 b0 δ2) : W X (.BoolOp .Or (e :: e2 :: rest) pos) δ b0 δ2 :=
  pw_of (pw_or h h2) fun σ H Q ⟨B, gs, γ, hl, S0, k⟩ => ⟨B, gs, γ, hl, S0, fun H1 S1 => iteF ⟨B, gs, γ, SR.len2 hl S0 S1, S1, k⟩⟩
theorem w_orT {rest : List Expr} {t2 : TT} (h : T X e δ true δ1) (h2 : PW X (.BoolOp .Or (e2 :: rest) pos) t2) : W X (.BoolOp .Or (e :: e2 :: rest) pos) δ true δ1 :=
  pw_of (pw_or h h2) fun σ H Q ⟨B, gs, γ, hl, S0, k⟩ => ⟨B, gs, γ, hl, S0, fun H1 S1 => iteT (k H1 S1)⟩
/-- both, the second asked only if the first is so; nothing is changed by them -/
theorem w_and {rest : List Expr} {b0 b1 : Bool} (h : T X e δ b0 δ1) (h2 : b0 = true → W X (.BoolOp .And (e2 :: rest) pos) δ1 b1 δ1) (h3 : ∃ t2, PW X (.BoolOp .And (e2 :: rest) pos) t2 := by exact ⟨_, h2 (by assumption)⟩) : W X (.BoolOp .And (e :: e2 :: rest) pos) δ (b0 && b1) δ1 := by
  cases b0 with
  | true => exact w_andT h (h2 rfl)
  | false =>
    obtain ⟨t2, h3⟩ := h3
    exact w_andF h h3
theorem e_and1 {op} (h : E X e δ a δ1) : E X (.BoolOp op [e] pos) δ a δ1 := pe_one h
theorem e_andT {rest : List Expr} (h : E X e δ (.dat (.bool true)) δ1) (h2 : E X (.BoolOp .And (e2 :: rest) pos) δ1 a δ2) : E X (.BoolOp .And (e :: e2 :: rest) pos) δ a δ2 :=
  pe_of (pe_and h h2) fun σ H Q ⟨B, gs, γ, hl, S0, k⟩ => ⟨B, gs, γ, hl, S0, fun x H1 S1 => ⟨true, bool_of S1.last, iteT ⟨B, gs, γ, SR.len3 hl S0 S1, S1.pop, k⟩⟩⟩
theorem e_andF {rest : List Expr} {t2 : TE} (h : E X e δ (.dat (.bool false)) δ1) (h2 : PE X (.BoolOp .And (e2 :: rest) pos) t2) : E X (.BoolOp .And (e :: e2 :: rest) pos) δ (.dat (.bool false)) δ1 :=
  pe_of (pe_and h h2) fun σ H Q ⟨B, gs, γ, hl, S0, k⟩ => ⟨B, gs, γ, hl, S0, fun x H1 S1 => ⟨false, bool_of S1.last, iteF (k _ _ (S1.pop.pushP rl_bool rfl))⟩⟩
theorem e_not {b0 : Bool} (h : E X e δ (.dat (.bool b0)) δ1) : E X (.UnaryOp .Not e pos) δ (.dat (.bool (!b0))) δ1 :=
  pe_of (pe_not h) fun σ H Q ⟨B, gs, γ, hl, S0, k⟩ => ⟨B, gs, γ, hl, S0, fun x H1 S1 => ⟨b0, bool_of S1.last, k _ _ (S1.pop.pushP rl_bool rfl)⟩⟩
theorem e_ifT {t3 : TE} (h : T X e δ true δ1) (h2 : E X e2 δ1 a δ2) (h3 : PE X e3 t3) : E X (.IfExp e e2 e3 pos) δ a δ2 :=
  pe_of (pe_ifExp h h2 h3) fun σ H Q ⟨B, gs, γ, hl, S0, k⟩ => ⟨B, gs, γ, hl, S0, fun H1 S1 => iteT ⟨B, gs, γ, SR.len2 hl S0 S1, S1, k⟩⟩
theorem e_ifF {t2 : TE} (h : T X e δ false δ1) (h2 : PE X e2 t2) (h3 : E X e3 δ1 a δ2) : E X (.IfExp e e2 e3 pos) δ a δ2 :=
  pe_of (pe_ifExp h h2 h3) fun σ H Q ⟨B, gs, γ, hl, S0, k⟩ => ⟨B, gs, γ, hl, S0, fun H1 S1 => iteF ⟨B, gs, γ, SR.len2 hl S0 S1, S1, k⟩⟩
/-- code that is not asked -/
theorem pe_no : PE X e (fun _ _ _ => False) := ⟨fun _ _ _ _ _ _ h => h.elim⟩
theorem pt_no : PT X e (fun _ _ _ => False) := ⟨fun _ _ _ _ _ _ h => h.elim⟩
theorem pw_no : PW X e (fun _ _ _ => False) := ⟨fun _ _ _ _ _ _ _ h => h.elim⟩
theorem pa_no {es : List Expr} : PA X es (fun _ _ _ => False) := ⟨fun _ _ _ _ _ _ _ h => h.elim⟩
theorem pss_no {sts : List Stmt} : PSs X sts (fun _ _ _ => False) := ⟨fun _ _ _ _ _ _ h => h.elim⟩
theorem e_if {b0 : Bool} (h : T X e δ b0 δ1) (h2 : b0 = true → E X e2 δ1 a δ1) (h3 : b0 = false → E X e3 δ1 a δ1) : E X (.IfExp e e2 e3 pos) δ a δ1 := by
  cases b0 with
  | true => exact e_ifT h (h2 rfl) pe_no
  | false => exact e_ifF h pe_no (h3 rfl)
theorem w_and' {rest : List Expr} {b0 b1 : Bool} (h : T X e δ b0 δ1) (h2 : b0 = true → W X (.BoolOp .And (e2 :: rest) pos) δ1 b1 δ1) : W X (.BoolOp .And (e :: e2 :: rest) pos) δ (b0 && b1) δ1 := by
  cases b0 with
  | true => exact w_andT h (h2 rfl)
  | false => exact w_andF h pw_no
theorem w_or' {rest : List Expr} {b0 b1 : Bool} (h : T X e δ b0 δ1) (h2 : b0 = false → W X (.BoolOp .Or (e2 :: rest) pos) δ1 b1 δ1) : W X (.BoolOp .Or (e :: e2 :: rest) pos) δ (b0 || b1) δ1 := by
  cases b0 with
  | true => exact w_orT h pw_no
  | false => exact w_orF h (h2 rfl)
theorem e_and' {rest : List Expr} {b0 b1 : Bool} (h : E X e δ (.dat (.bool b0)) δ1) (h2 : b0 = true → E X (.BoolOp .And (e2 :: rest) pos) δ1 (.dat (.bool b1)) δ1) : E X (.BoolOp .And (e :: e2 :: rest) pos) δ (.dat (.bool (b0 && b1))) δ1 := by
  cases b0 with
  | true => exact e_andT h (h2 rfl)
  | false => exact e_andF h pe_no
theorem w_pt {b0 : Bool} (h : W X e δ b0 δ1) : T X e δ b0 δ1 := h.pt
end
end G
end FW3
section FW4
set_option Elab.async false
set_option linter.all false
set_option maxRecDepth 100000
set_option maxHeartbeats 4000000
namespace G
open PySem L2
theorem sz_ok {n : Nat} (h : n ≤ 100000) : n ≤ sizeLine := Nat.le_trans h (by decide)
theorem sz_lt {n : Nat} (h : n < 100000) : n < sizeLine := Nat.lt_of_lt_of_le h (by decide)
theorem same_new {H : Hp} {p : Addr} {o : HO} (h : H p = none) : Same H (upd H p o) := fun a u e => by
  rw [upd_ne (ne_of_none e h)]
  exact e
section
variable {X : Cx} {δ δ1 δ2 δ3 : Ab} {a b c : AV} {e e1 e2 e3 : Expr} {pos p p1 : Pos} {as : List AV} {es : List Expr}
variable {K : PySem.W.Frag} {B H H' : Hp} {l l' : L2.St} {m m' : Ab} {v x : V} {d : PyData} {ds : List PyData}

/-! ### items -/
theorem ox_ixT {i : Int} (h1 : view δ a = some (.tuple ds)) (h2 : atI ds i = some d) : OpX K (rIxT K) δ a (.dat (.int i)) (.dat d) := fun B H l m x y Q hs S k => by
  obtain ⟨p, vs, rfl, hq, hi⟩ := S.pop.tuple S.pop.last (view_app (view_sub hs h1))
  obtain ⟨j, v, g1, g2, g3⟩ := dps_atI hi.1 h2
  exact ⟨p, vs, i, v, rfl, int_of S.last, hq, g1, k _ _ (S.pop.pop.pushP (a := .dat d) (hi.2 j v d g2 g3) rfl)⟩
theorem ox_ixL {i : Int} (h1 : view δ a = some (.list ds)) (h2 : atI ds i = some d) : OpX K (rIxL K) δ a (.dat (.int i)) (.dat d) := fun B H l m x y Q hs S k => by
  obtain ⟨p, vs, rfl, hq, hi⟩ := S.pop.list S.pop.last (view_app (view_sub hs h1))
  obtain ⟨j, v, g1, g2, g3⟩ := dps_atI hi.1 h2
  exact ⟨p, vs, i, v, rfl, int_of S.last, hq, g1, k _ _ (S.pop.pop.pushP (a := .dat d) (hi.2 j v d g2 g3) rfl)⟩
theorem e_ix {r : R2} (hr : IxR X r) (ha : E X e1 δ a δ1) (hb : E X e2 δ1 b δ2) (h : OpX X.K r δ2 a b c) (hs : PlainIx e2 := by exact fun _ _ => rfl) : E X (.Subscript e1 e2 pos) δ c δ2 :=
  pe_of (pe_ix hr ha hb hs) fun σ H Q ⟨B, gs, γ, hl, S0, k⟩ => bind2 hl S0 fun x y H2 S2 => h B H2 _ _ x y Q sub_app S2 fun z H3 S3 => k z H3 S3
/-- t[i] -/
def ixTV (δ : Ab) (a : AV) (i : Int) : Option PyData := match view δ a with
  | some (.tuple ds) => atI ds i
  | _ => none
def ixLV (δ : Ab) (a : AV) (i : Int) : Option PyData := match view δ a with
  | some (.list ds) => atI ds i
  | _ => none
theorem e_ixT {i : Int} (ha : E X e1 δ a δ1) (hb : E X e2 δ1 (.dat (.int i)) δ2) (h : ixTV δ2 a i = some d) (hs : PlainIx e2 := by exact fun _ _ => rfl) : E X (.Subscript e1 e2 pos) δ (.dat d) δ2 := by
  unfold ixTV at h
  split at h
  · rename_i ds h1
    exact e_ix ix_tup ha hb (ox_ixT h1 h) hs
  · cases h
theorem e_ixL {i : Int} (ha : E X e1 δ a δ1) (hb : E X e2 δ1 (.dat (.int i)) δ2) (h : ixLV δ2 a i = some d) (hs : PlainIx e2 := by exact fun _ _ => rfl) : E X (.Subscript e1 e2 pos) δ (.dat d) δ2 := by
  unfold ixLV at h
  split at h
  · rename_i ds h1
    exact e_ix ix_list ha hb (ox_ixL h1 h) hs
  · cases h

/-! ### slices -/
def tO (K : PySem.W.Frag) (δ : Ab) (o : Option Int) (δ' : Ab) : TO := fun σ H Q => ∃ (B : Hp) (gs : L2.St) (γ : Ab), σ.length = δ.length ∧ SR K B H (σ ++ gs) (δ ++ γ) ∧
  ∀ H2, SR K B H2 (σ ++ gs) (δ' ++ γ) → Q o H2
abbrev O (X : Cx) (e : Option Expr) (δ : Ab) (o : Option Int) (δ' : Ab) : Prop := PO X e (tO X.K δ o δ')
theorem po_of {X : Cx} {e : Option Expr} {t t0 : TO} (h : PO X e t0) (m : ∀ σ H Q, t σ H Q → t0 σ H Q) : PO X e t := ⟨fun pins s σ H Q I q => h.run pins s σ H Q I (m σ H Q q)⟩
theorem o_none : O X none δ none δ := po_of po_none fun σ H Q ⟨B, gs, γ, hl, S0, k⟩ => k H S0
theorem o_some {i : Int} (h : E X e δ (.dat (.int i)) δ1) : O X (some e) δ (some i) δ1 := po_of (po_some h) fun σ H Q ⟨B, gs, γ, hl, S0, k⟩ => ⟨B, gs, γ, hl, S0, fun x H1 S1 => ⟨i, int_of S1.last, k H1 S1.pop⟩⟩
def cutD (ds : List PyData) (lo hi : Option Int) : List PyData := (ds.drop (HT.sIx ds.length 0 lo)).take (HT.sIx ds.length ds.length hi - HT.sIx ds.length 0 lo)
theorem noLs_cut {lo hi : Option Int} (h : noLs ds = true) : noLs (cutD ds lo hi) = true := noLs_of fun d hd => noLs_mem h (List.mem_of_mem_drop (List.mem_of_mem_take hd))
theorem dps_cut {vs : List V} {lo hi : Option Int} (h : DpAll K H vs ds) : DpAll K H (cutV vs lo hi) (cutD ds lo hi) := by
  unfold cutV cutD
  rw [dps_len h]
  exact dps_take _ (dps_drop _ h)
theorem e_slL {lo hi : Option Expr} {i j : Option Int} {p2 : Pos} (ha : E X e1 δ a δ1) (hl : O X lo δ1 i δ2) (hh : O X hi δ2 j δ3) (h1 : view δ3 a = some (.list ds)) (hn : noLs ds = true) : E X (.Subscript e1 (.Slice lo hi none p2) pos) δ (.lst none (cutD ds i j)) δ3 :=
  pe_of (pe_slice sl_list ha hl hh) fun σ H Q ⟨B, gs, γ, hlen, S0, k⟩ => ⟨B, gs, γ, hlen, S0, fun x H1 S1 =>
    ⟨B, gs ++ [some x], γ ++ [some a], SR.len3 hlen S0 S1, by rw [← List.append_assoc, ← List.append_assoc]; exact S1, fun H2 S2 =>
    ⟨B, gs ++ [some x], γ ++ [some a], SR.len2 (SR.len3 hlen S0 S1) (by rw [← List.append_assoc, ← List.append_assoc]; exact S1) S2, S2, fun H3 S3 => by
      rw [← List.append_assoc, ← List.append_assoc] at S3
      obtain ⟨p, vs, rfl, hq, hi⟩ := S3.list S3.last (view_app (view_app h1))
      exact ⟨p, vs, rfl, hq, fun q hq' => k _ _ (S3.pop.pushN (same_new hq') (fun _ z => by cases z) hq' ⟨noLs_cut hn, _, upd_same, dps_same (same_new hq') _ _ (dps_cut hi.1)⟩)⟩⟩⟩⟩
theorem e_slT {lo hi : Option Expr} {i j : Option Int} {p2 : Pos} (ha : E X e1 δ a δ1) (hl : O X lo δ1 i δ2) (hh : O X hi δ2 j δ3) (h1 : view δ3 a = some (.tuple ds)) (hn : noLs ds = true) : E X (.Subscript e1 (.Slice lo hi none p2) pos) δ (.dat (.tuple (cutD ds i j))) δ3 :=
  pe_of (pe_slice sl_tupA ha hl hh) fun σ H Q ⟨B, gs, γ, hlen, S0, k⟩ => ⟨B, gs, γ, hlen, S0, fun x H1 S1 =>
    ⟨B, gs ++ [some x], γ ++ [some a], SR.len3 hlen S0 S1, by rw [← List.append_assoc, ← List.append_assoc]; exact S1, fun H2 S2 =>
    ⟨B, gs ++ [some x], γ ++ [some a], SR.len2 (SR.len3 hlen S0 S1) (by rw [← List.append_assoc, ← List.append_assoc]; exact S1) S2, S2, fun H3 S3 => by
      rw [← List.append_assoc, ← List.append_assoc] at S3
      obtain ⟨p, vs, rfl, hq, hi⟩ := S3.tuple S3.last (view_app (view_app h1))
      refine ⟨p, vs, rfl, hq, fun w => ?_, fun _ q hq' => k _ _ ((S3.pop.same (same_new hq')).pushP (a := .dat _) (.inr ⟨noLs_cut hn, .tup (SqT.of upd_same) (dps_same (same_new hq') _ _ (dps_cut hi.1))⟩) rfl)⟩
      refine k _ _ (S3.pop.pushP (a := .dat _) (.inr ⟨noLs_cut hn, .tup hq ?_⟩) rfl)
      have z := dps_cut (lo := i) (hi := j) hi.1
      have e : cutV vs i j = vs := by
        unfold cutV
        rw [w.1, w.2, List.drop_zero, Nat.sub_zero, List.take_length]
      rw [e] at z
      exact z⟩⟩⟩

/-! ### argument lists, displays -/
theorem a_nil : A X [] δ [] δ := pa_of pa_nil fun σ H Q ⟨B, gs, γ, hl, S0, k⟩ => k [] H rfl (by
  show SR X.K B H (σ ++ gs ++ []) (δ ++ γ ++ [])
  rw [List.append_nil, List.append_nil]
  exact S0)
theorem a_cons (ha : E X e δ a δ1) (hr : A X es δ1 as δ2) (hs : starEach (e :: es) X.env = (false, eval e X.env) :: starEach es X.env := by rfl) : A X (e :: es) δ (a :: as) δ2 :=
  pa_of (pa_cons ha hr hs) fun σ H Q ⟨B, gs, γ, hl, S0, k⟩ => ⟨B, gs, γ, hl, S0, fun x H1 S1 =>
    ⟨B, gs ++ [some x], γ ++ [some a], SR.len3 hl S0 S1, by rw [← List.append_assoc, ← List.append_assoc]; exact S1, fun vs H2 hlen S2 => k (x :: vs) H2 (by rw [List.length_cons, List.length_cons, hlen]) (by
      have e1 : σ ++ (gs ++ [some x]) ++ vs.map some = σ ++ gs ++ (x :: vs).map some := by simp
      have e2 : δ2 ++ (γ ++ [some a]) ++ as.map some = δ2 ++ γ ++ (a :: as).map some := by simp
      rw [e1, e2] at S2
      exact S2)⟩⟩
/-- the views of several values -/
def Views (δ : Ab) : List AV → List PyData → Prop
  | [], [] => True
  | a :: as, d :: ds => view δ a = some d ∧ Views δ as ds
  | _, _ => False
theorem vals_dp (hs : ∀ (i : Nat) q, δ[i]? = some q → m[i]? = some q) : ∀ {vs : List V} {as : List AV} {ds : List PyData} {l : L2.St} {m' : Ab}, (∀ (i : Nat) q, δ[i]? = some q → m'[i]? = some q) → vs.length = as.length → SR K B H (l ++ vs.map some) (m' ++ as.map some) → Views δ as ds → DpAll K H vs ds ∧ SR K B H l m'
  | [], [], [], l, m', _, _, S, _ => ⟨.nil, by
    rw [List.map_nil, List.map_nil, List.append_nil, List.append_nil] at S
    exact S⟩
  | v :: vs, a :: as, d :: ds, l, m', hm, hl, S, hv => by
    rw [List.map_cons, List.map_cons, List.append_cons, List.append_cons m'] at S
    obtain ⟨h1, h2⟩ := vals_dp hs (l := l ++ [some v]) (m' := m' ++ [some a]) (fun i q e => getq_append_left' (hm i q e)) (by simpa using hl) S hv.2
    exact ⟨.cons (h2.dp h2.last (view_app (view_sub hm hv.1))) h1, h2.pop⟩
  | [], [], _ :: _, _, _, _, _, _, hv => hv.elim
  | _ :: _, _ :: _, [], _, _, _, _, _, hv => hv.elim
def viewsV (δ : Ab) : List AV → Option (List PyData)
  | [] => some []
  | a :: as => match view δ a, viewsV δ as with
    | some d, some ds => some (d :: ds)
    | _, _ => none
theorem views_of : ∀ {as : List AV} {ds : List PyData}, viewsV δ as = some ds → Views δ as ds
  | [], ds, h => by
    cases h
    trivial
  | a :: as, ds, h => by
    unfold viewsV at h
    split at h
    · rename_i d ds' h1 h2
      cases h
      exact ⟨h1, views_of h2⟩
    · cases h
theorem e_tup (h : A X es δ as δ1) (hv0 : viewsV δ1 as = some ds) (hn : noLs ds = true := by rfl) (hl0 : Nat.ble as.length 100000 = true := by rfl) {x1} : E X (.Tuple es x1 pos) δ (.dat (.tuple ds)) δ1 :=
  have hv := views_of hv0
  have hl := Nat.le_of_ble_eq_true hl0
  pe_of (pe_tup h) fun σ H Q ⟨B, gs, γ, hlen, S0, k⟩ => ⟨B, gs, γ, hlen, S0, fun vs H1 hl1 S1 => by
    obtain ⟨h1, h2⟩ := vals_dp (m := δ1 ++ γ) sub_app sub_app hl1 S1 hv
    refine ⟨by rw [hl1]; exact sz_ok hl, fun p hp => k _ _ ((h2.same (same_new hp)).pushP (a := .dat _) (.inr ⟨hn, .tup (SqT.of upd_same) (dps_same (same_new hp) _ _ h1)⟩) rfl)⟩⟩
theorem e_list (h : A X es δ as δ1) (hv0 : viewsV δ1 as = some ds) (hn : noLs ds = true := by rfl) (hl0 : Nat.ble as.length 100000 = true := by rfl) : E X (.List es pos) δ (.lst none ds) δ1 :=
  have hv := views_of hv0
  have hl := Nat.le_of_ble_eq_true hl0
  pe_of (pe_lst h) fun σ H Q ⟨B, gs, γ, hlen, S0, k⟩ => ⟨B, gs, γ, hlen, S0, fun vs H1 hl1 S1 => by
    obtain ⟨h1, h2⟩ := vals_dp (m := δ1 ++ γ) sub_app sub_app hl1 S1 hv
    refine ⟨by rw [hl1]; exact sz_ok hl, fun p hp => k _ _ (h2.pushN (same_new hp) (fun _ z => by cases z) hp ⟨hn, _, upd_same, dps_same (same_new hp) _ _ h1⟩)⟩⟩

/-! ### lists and tuples joined -/
/-- a list that is tracked -/
theorem SR.lstT {ds : List PyData} (S : SR K B H l m) (h : Rl K B H l v a) (hv : view m a = some (.list ds)) (hk : ∀ d, a ≠ .dat d) : ∃ p vs, v = .ref p ∧ H p = some (.lst vs) ∧ DpAll K H vs ds ∧ noLs ds = true := by
  cases a with
  | dat d => exact absurd rfl (hk d)
  | lst o es =>
    cases hv
    obtain ⟨p, rfl, _, _, n, vs, h1, h2⟩ := h
    exact ⟨p, vs, rfl, h1, h2, n⟩
  | fz es =>
    cases hv
    obtain ⟨p, rfl, _, n, vs, h1, h2⟩ := h
    exact ⟨p, vs, rfl, h1, h2, n⟩
  | sl i =>
    have h : l[i]? = some (some v) := h
    obtain ⟨o, es, e, q⟩ := lview_some (q := m[i]?) hv
    cases q
    obtain ⟨u, h1, p, rfl, _, _, n, vs, h2, h3⟩ := S.rel i _ e
    rw [h] at h1
    cases h1
    exact ⟨p, vs, rfl, h2, h3, n⟩
  | ins C fs => cases hv
  | obj q0 C fs => cases hv
def AV.isDat : AV → Bool
  | .dat _ => true
  | _ => false
theorem ox_cat {es : List PyData} (h1 : view δ a = some (.list ds)) (h2 : view δ b = some (.list es)) (k1 : a.isDat = false) (k2 : b.isDat = false) (hl : ds.length + es.length ≤ 100000) : OpX K rCat δ a b (.lst none (ds ++ es)) := fun B H l m x y Q hs S k => by
  obtain ⟨p, vs, rfl, g1, g2, n1⟩ := S.pop.lstT S.pop.last (view_app (view_sub hs h1)) (fun d e => by rw [e] at k1; cases k1)
  obtain ⟨q, ws, rfl, g3, g4, n2⟩ := S.lstT S.last (view_app (view_app (view_sub hs h2))) (fun d e => by rw [e] at k2; cases k2)
  exact ⟨p, q, vs, ws, rfl, rfl, g1, g3, by rw [dps_len g2, dps_len g4]; exact sz_ok hl, fun t ht => k _ _ (S.pop.pop.pushN (same_new ht) (fun _ z => by cases z) ht ⟨noLs_app n1 n2, _, upd_same, dps_same (same_new ht) _ _ (dps_app g2 g4)⟩)⟩
theorem e_cat {es' : List PyData} (ha : E X e1 δ a δ1) (hb : E X e2 δ1 b δ2) (hl : ds.length + es'.length ≤ 100000) (h1 : view δ2 a = some (.list ds) := by rfl) (h2 : view δ2 b = some (.list es') := by rfl) (k1 : a.isDat = false := by rfl) (k2 : b.isDat = false := by rfl) :
    E X (.BinOp e1 .Add e2 pos) δ (.lst none (ds ++ es')) δ2 := e_op op_cat ha hb (ox_cat h1 h2 k1 k2 hl)
theorem ox_catT {es : List PyData} (h1 : view δ a = some (.tuple ds)) (h2 : view δ b = some (.tuple es)) (n1 : noLs ds = true) (n2 : noLs es = true) (hl : ds.length + es.length ≤ 100000) : OpX K (rCatA K) δ a b (.dat (.tuple (ds ++ es))) := fun B H l m x y Q hs S k => by
  obtain ⟨p, vs, rfl, g1, g2⟩ := S.pop.tuple S.pop.last (view_app (view_sub hs h1))
  obtain ⟨q, ws, rfl, g3, g4⟩ := S.tuple S.last (view_app (view_app (view_sub hs h2)))
  have z := dps_app g2.1 g4.1
  refine ⟨p, q, vs, ws, rfl, rfl, g1, g3, by rw [dps_len g2.1, dps_len g4.1]; exact sz_ok hl, fun e => ?_, fun _ e => ?_, fun _ _ t ht => k _ _ ((S.pop.pop.same (same_new ht)).pushP (a := .dat _) (.inr ⟨noLs_app n1 n2, .tup (SqT.of upd_same) (dps_same (same_new ht) _ _ z)⟩) rfl)⟩
  · subst e
    exact k _ _ (S.pop.pop.pushP (a := .dat _) (.inr ⟨noLs_app n1 n2, .tup g3 z⟩) rfl)
  · subst e
    rw [List.append_nil] at z
    exact k _ _ (S.pop.pop.pushP (a := .dat _) (.inr ⟨noLs_app n1 n2, .tup g1 z⟩) rfl)
theorem e_catT {es' : List PyData} (ha : E X e1 δ a δ1) (hb : E X e2 δ1 b δ2) (n1 : noLs ds = true) (n2 : noLs es' = true) (hl : ds.length + es'.length ≤ 100000) (h1 : view δ2 a = some (.tuple ds) := by rfl) (h2 : view δ2 b = some (.tuple es') := by rfl) :
    E X (.BinOp e1 .Add e2 pos) δ (.dat (.tuple (ds ++ es'))) δ2 := e_op op_catA ha hb (ox_catT h1 h2 n1 n2 hl)
end
end G
end FW4
section FW5
set_option Elab.async false
set_option linter.all false
set_option maxRecDepth 100000
set_option maxHeartbeats 4000000
namespace G
open PySem L2

/-! ### what a def promises -/
def ArgR (K : PySem.W.Frag) (H : Hp) (v : V) : AV → Prop
  | .dat d => Dp K H v d
  | .ins C fs => RlIns K H v C fs
  | _ => False
abbrev ArgsR (K : PySem.W.Frag) (H : Hp) : List V → List AV → Prop := Paired (ArgR K H)
/-- a result: made of what is new, H the heap at the call -/
def ResR (K : PySem.W.Frag) (H H' : Hp) (v : V) : AV → Prop
  | .dat d => noL d = true ∧ Dp K H' v d
  | .lst none ds => ∃ p, v = .ref p ∧ H p = none ∧ LstAt K H' p ds
  | .ins C fs => RlIns K H' v C fs
  | _ => False
/-- a def that writes nothing that stood -/
def spP (K : PySem.W.Frag) (R : List AV → AV → Prop) : Sp := fun vs H Q _ => ∃ as a, R as a ∧ ArgsR K H vs as ∧ ∀ v H', Same H H' → ResR K H H' v a → Q v H'
/-- a def that writes the list it is given first -/
def spF (K : PySem.W.Frag) (R : List PyData → List AV → AV → List PyData → Prop) : Sp := fun vs H Q _ => ∃ p vs' as a fd fd', vs = .ref p :: vs' ∧ LstAt K H p fd ∧ R fd as a fd' ∧ ArgsR K (hide p H) vs' as ∧
  ∀ v H', Same (hide p H) (hide p H') → LstAt K H' p fd' → ResR K H H' v a → Q v H'
/-- an __init__ -/
def spI (K : PySem.W.Frag) (C : Addr) (R : List AV → List (Str × PyData) → Prop) : Sp := fun vs H Q _ => ∃ x dx vs' as fs H0, vs = .ref x :: vs' ∧ Same H0 H ∧ H0 x = none ∧ H x = some (.ins C dx []) ∧ R as fs ∧ ArgsR K H0 vs' as ∧
  ∀ H', Same H0 H' → RlIns K H' (.ref x) C fs → Q .non H'
/-- what a call of a def needs -/
structure Cal (P : Program) (w : World) (K : PySem.W.Frag) (mg : Str → Option Value) (base : Heap) (x : Str) (k : Nat) (sp : Sp) : Prop where
  ex : ∃ f fd ps, mg x = some (.ref f) ∧ PySem.W.keepIn K (.ref f) = true ∧ Binds K fd ps [] ∧ FnOk P w K mg base CX0 k f fd ps sp
/-- of a method -/
structure MCal (P : Program) (w : World) (K : PySem.W.Frag) (mg : Str → Option Value) (base : Heap) (C : Addr) (x : Str) (k : Nat) (sp : Sp) : Prop where
  ex : ∃ f fd ps, Cls K C ∧ Meth K C x f ∧ Binds K fd ps [] ∧ FnOk P w K mg base CX0 k f fd ps sp
/-- of a class -/
structure KCal (P : Program) (w : World) (K : PySem.W.Frag) (mg : Str → Option Value) (base : Heap) (C : Addr) (x : Str) (k : Nat) (R : List AV → List (Str × PyData) → Prop) : Prop where
  ex : ∃ f fd ps, mg x = some (.ref C) ∧ Mk K C f ∧ Binds K fd ps [] ∧ FnOk P w K mg base CX0 k f fd ps (spI K C R)

section
variable {K : PySem.W.Frag} {B H H' : Hp} {l l' : L2.St} {δ m m' : Ab} {v x : V} {a : AV} {as : List AV} {d : PyData} {ds : List PyData}
def argView (δ : Ab) : AV → Option AV
  | .ins C fs => some (.ins C fs)
  | a => (view δ a).map .dat
def Args (δ : Ab) : List AV → List AV → Prop
  | [], [] => True
  | a :: as, b :: bs => argView δ a = some b ∧ Args δ as bs
  | _, _ => False
def argsV (δ : Ab) : List AV → Option (List AV)
  | [] => some []
  | a :: as => match argView δ a, argsV δ as with
    | some b, some bs => some (b :: bs)
    | _, _ => none
theorem args_of : ∀ {as bs : List AV}, argsV δ as = some bs → Args δ as bs
  | [], bs, h => by
    cases h
    trivial
  | a :: as, bs, h => by
    unfold argsV at h
    split at h
    · rename_i b bs' h1 h2
      cases h
      exact ⟨h1, args_of h2⟩
    · cases h
theorem arg_of (S : SR K B H l m) (h : Rl K B H l v a) {b : AV} (hv : argView δ a = some b) (hs : ∀ (i : Nat) q, δ[i]? = some q → m[i]? = some q) : ArgR K H v b := by
  have go : ∀ {d : PyData}, view δ a = some d → Dp K H v d := fun e => S.dp h (view_sub hs e)
  cases a with
  | ins C fs =>
    cases hv
    exact h
  | dat d => cases hv; exact go rfl
  | lst o ds => cases hv; exact go rfl
  | fz ds => cases hv; exact go rfl
  | obj q0 C fs => cases hv
  | sl i =>
    obtain ⟨d, e, q⟩ := Option.map_eq_some_iff.mp (show (view δ (.sl i)).map AV.dat = some b from hv)
    subst q
    exact go e
theorem vals_args : ∀ {vs : List V} {as bs : List AV} {l : L2.St} {m' : Ab}, (∀ (i : Nat) q, δ[i]? = some q → m'[i]? = some q) → vs.length = as.length → SR K B H (l ++ vs.map some) (m' ++ as.map some) → Args δ as bs → ArgsR K H vs bs ∧ SR K B H l m'
  | [], [], [], l, m', _, _, S, _ => ⟨.nil, by
    rw [List.map_nil, List.map_nil, List.append_nil, List.append_nil] at S
    exact S⟩
  | v :: vs, a :: as, b :: bs, l, m', hm, hl, S, hv => by
    rw [List.map_cons, List.map_cons, List.append_cons, List.append_cons m'] at S
    obtain ⟨h1, h2⟩ := vals_args (l := l ++ [some v]) (m' := m' ++ [some a]) (fun i q e => getq_append_left' (hm i q e)) (by simpa using hl) S hv.2
    exact ⟨.cons (arg_of h2 h2.last hv.1 (fun i q e => getq_append_left' (hm i q e))) h1, h2.pop⟩
  | [], [], _ :: _, _, _, _, _, _, hv => hv.elim
  | _ :: _, _ :: _, [], _, _, _, _, _, hv => hv.elim
/-- lists that stand are known -/
theorem SR.known (S : SR K B H l m) {i : Nat} {c : AV} (hi : m[i]? = some (some c)) (hc : (∃ o' ds', c = .lst o' ds') ∨ (∃ ds', c = .fz ds')) {p : Addr} (hl : l[i]? = some (some (.ref p))) : H p ≠ none := by
  obtain ⟨u, h1, h2⟩ := S.rel i c hi
  rw [hl] at h1
  cases h1
  rcases hc with ⟨o, ds, rfl⟩ | ⟨ds, rfl⟩
  · obtain ⟨q, e, _, _, _, vs, hv, _⟩ := h2
    cases e
    rw [hv]
    simp
  · obtain ⟨q, e, _, _, vs, hv, _⟩ := h2
    cases e
    rw [hv]
    simp
/-- an argument, in the heap without an owned list that it is not -/
theorem arg_hide {i : Nat} {o : Option Addr} {fd : List PyData} {p : Addr} {b : AV} (S : SR K B H (l ++ [some v]) (m ++ [some a])) (hi : m[i]? = some (some (.lst o fd))) (hp : l[i]? = some (some (.ref p))) (hv : argView δ a = some b) (hno : a ≠ .sl i) (hs : ∀ (i : Nat) q, δ[i]? = some q → m[i]? = some q) :
    ArgR K (hide p H) v b := by
  have hlen : l.length = m.length := by
    have := S.len
    rw [List.length_append, List.length_append] at this
    simpa using this
  obtain ⟨u, g1, pp, ev, _, hB, n0, vs0, hv0, hd0⟩ := S.pop.rel i _ hi
  rw [hp] at g1
  cases g1
  cases ev
  have tsb := hide_tsub hv0
  have il : i < m.length := (List.getElem?_eq_some_iff.mp hi).1
  have hi' : (m ++ [some a])[i]? = some (some (.lst o fd)) := getq_append_left' hi
  have hp' : (l ++ [some v])[i]? = some (some (.ref p)) := getq_append_left' hp
  have lists : ∀ {q : Addr} {es : List PyData} {c' : AV} {j' : Nat}, (m ++ [some a])[j']? = some (some c') → ((∃ o' ds', c' = .lst o' ds') ∨ (∃ ds', c' = .fz ds')) → j' ≠ i → (l ++ [some v])[j']? = some (some (V.ref q)) → LstAt K H q es → Dp K (hide p H) (.ref q) (.list es) := fun {q es c' j'} e1 e2 e3 e4 ⟨n, ws, w1, w2⟩ => by
    have hq : q ≠ p := fun z => by
      subst z
      exact e3 (S.dis i j' o fd c' hi' e1 e2 (hp'.trans e4.symm)).symm
    exact .lst (SqL.of (by rw [hide_ne hq]; exact w1)) (dps_t tsb _ _ n w2)
  have endm : (m ++ [some a])[m.length]? = some (some a) := by rw [List.getElem?_append_right (Nat.le_refl _), Nat.sub_self]; rfl
  have endl : (l ++ [some v])[m.length]? = some (some v) := by rw [← hlen, List.getElem?_append_right (Nat.le_refl _), Nat.sub_self]; rfl
  have L := S.last
  cases a with
  | dat d =>
    cases hv
    exact L.elim (fun q => dp_same (hide_base S.base hB) _ _ q) fun q => dp_t tsb _ _ q.1 q.2
  | ins C fs =>
    cases hv
    obtain ⟨n, q, dx, ws, rfl, hq, hn2, hd2⟩ := L
    exact ⟨n, q, dx, ws, rfl, by rw [hide_ne (ne_of hq hv0 (fun z => by cases z))]; exact hq, hn2, dps_t tsb _ _ n hd2⟩
  | lst o3 es =>
    cases hv
    obtain ⟨q, rfl, _, _, q4⟩ := L
    exact lists endm (.inl ⟨_, _, rfl⟩) (by omega) endl q4
  | fz es =>
    cases hv
    obtain ⟨q, rfl, _, q4⟩ := L
    exact lists endm (.inr ⟨_, rfl⟩) (by omega) endl q4
  | obj q0 C fs => cases hv
  | sl k =>
    obtain ⟨d, e, q⟩ := Option.map_eq_some_iff.mp (show (view δ (.sl k)).map AV.dat = some b from hv)
    subst q
    obtain ⟨o4, es, e5, q5⟩ := lview_some (q := δ[k]?) e
    subst q5
    have hki : k ≠ i := fun z => hno (by rw [z])
    have ekk : (m ++ [some (AV.sl k)])[k]? = some (some (.lst o4 es)) := getq_append_left' (hs _ _ e5)
    obtain ⟨u, g3, q, rfl, _, _, q4⟩ := S.rel k _ ekk
    have L : (l ++ [some v])[k]? = some (some v) := L
    rw [L] at g3
    cases g3
    exact lists ekk (.inl ⟨_, _, rfl⟩) hki L q4
theorem args_hide {i : Nat} {o : Option Addr} {fd : List PyData} {p : Addr} : ∀ {vs : List V} {as bs : List AV} {l : L2.St} {m : Ab}, (∀ (i : Nat) q, δ[i]? = some q → m[i]? = some q) → m[i]? = some (some (.lst o fd)) → l[i]? = some (some (.ref p)) → vs.length = as.length →
    SR K B H (l ++ vs.map some) (m ++ as.map some) → Args δ as bs → (∀ b ∈ as, b ≠ .sl i) → ArgsR K (hide p H) vs bs ∧ SR K B H l m
  | [], [], [], l, m, _, _, _, _, S, _, _ => ⟨.nil, by
    rw [List.map_nil, List.map_nil, List.append_nil, List.append_nil] at S
    exact S⟩
  | v :: vs, a :: as, b :: bs, l, m, hm, hi, hp, hl, S, hv, hno => by
    rw [List.map_cons, List.map_cons, List.append_cons, List.append_cons m] at S
    obtain ⟨h1, h2⟩ := args_hide (l := l ++ [some v]) (m := m ++ [some a]) (fun i q e => getq_append_left' (hm i q e)) (getq_append_left' hi) (getq_append_left' hp) (by simpa using hl) S hv.2 fun b hb => hno b (List.mem_cons_of_mem _ hb)
    exact ⟨.cons (arg_hide h2 hi hp hv.1 (hno a List.mem_cons_self) hm) h1, h2.pop⟩
  | [], [], _ :: _, _, _, _, _, _, _, _, hv, _ => hv.elim
  | _ :: _, _ :: _, [], _, _, _, _, _, _, _, hv, _ => hv.elim
/-- a result is kept -/
theorem SR.res (S0 : SR K B H l m) (S : SR K B H' l m') (hm : ∀ (i : Nat) c, m'[i]? = some (some c) → ((∃ o' ds', c = .lst o' ds') ∨ (∃ ds', c = .fz ds')) → ∃ c', m[i]? = some (some c') ∧ ((∃ o' ds', c' = .lst o' ds') ∨ (∃ ds', c' = .fz ds')))
    (h : ResR K H H' v a) : SR K B H' (l ++ [some v]) (m' ++ [some a]) := by
  cases a with
  | dat d => exact S.pushP (a := .dat d) (.inr h) rfl
  | ins C fs => exact S.pushP (a := .ins C fs) h rfl
  | lst o ds =>
    cases o with
    | some q => exact h.elim
    | none =>
      obtain ⟨p, rfl, hp, hL⟩ := h
      refine S.push (a := .lst none ds) ⟨p, rfl, (fun _ z => by cases z), S0.fresh hp, hL⟩ (fun o2 ds2 _ i hi hl => ?_) (fun ds2 e => by cases e)
      obtain ⟨o', ds', hi | hi⟩ := hi
      · obtain ⟨c', h1, h2⟩ := hm i _ hi (.inl ⟨_, _, rfl⟩)
        exact S0.known h1 h2 hl hp
      · obtain ⟨c', h1, h2⟩ := hm i _ hi (.inr ⟨_, rfl⟩)
        exact S0.known h1 h2 hl hp
  | fz ds => exact h.elim
  | sl i => exact h.elim
  | obj q0 C fs => exact h.elim
end

section
variable {X : Cx} {δ δ1 δ2 δ3 : Ab} {a b c : AV} {e e1 e2 e3 : Expr} {pos p p1 apos : Pos} {as bs : List AV} {es : List Expr} {k : Nat} {x mt f : Str}
theorem e_call {R : List AV → AV → Prop} (cl : Cal X.prog X.w X.K X.mg X.base x k (spP X.K R)) (hr : Room k X.A) (ha : A X (e :: es) δ as δ1) (hv0 : argsV δ1 as = some bs) (hR : R bs a) (hg : Gl X x := by rfl) (hdb : (x == ("__debug__" : Str)) = false := by decide)
    (he : starEach (e :: es) X.env = (false, eval e X.env) :: starEach es X.env := by rfl) (hpl : (backTo pos (starEach es X.env)).any (·.1) = false := by rfl) : E X (.Call (.Name x p) (e :: es) [] pos) δ a δ1 := by
  have hv := args_of hv0
  obtain ⟨fa, fd, ps, hm, hk, hb, F⟩ := cl.ex
  refine pe_of (pe_call F hr hg hm hk hb .nil pass0 ha hdb he hpl) fun σ H Q ⟨B, gs, γ, hl, S0, kk⟩ => ⟨B, gs, γ, hl, S0, fun vs H1 hlen S1 => ?_⟩
  obtain ⟨h1, h2⟩ := vals_args sub_app hlen S1 hv
  show spP X.K R (vs ++ []) H1 Q E0
  rw [List.append_nil]
  exact ⟨bs, a, hR, h1, fun v H' hs hres => kk v H' (h2.res (h2.same hs) (fun i c h1 h2 => ⟨c, h1, h2⟩) hres)⟩
/-- no value is the list of slot i -/
def slNot (i : Nat) : List AV → Bool
  | [] => true
  | .sl j :: as => !(Nat.beq i j) && slNot i as
  | _ :: as => slNot i as
theorem slNot_ne {i : Nat} : ∀ {as : List AV}, slNot i as = true → ∀ b ∈ as, b ≠ .sl i
  | [], _, _, hb => absurd hb (by simp)
  | a :: as, h, b, hb => by
    have h2 : slNot i as = true := by
      cases a with
      | sl j =>
        simp only [slNot, Bool.and_eq_true] at h
        exact h.2
      | _ => exact h
    rcases List.mem_cons.mp hb with rfl | hb
    · intro e
      subst e
      simp only [slNot, Bool.and_eq_true] at h
      simp at h
    · exact slNot_ne h2 b hb
/-- the same of a def that writes its first argument -/
theorem e_callF {R : List PyData → List AV → AV → List PyData → Prop} {i : Nat} {o : Option Addr} {fd fd' : List PyData} {ef : Expr} (cl : Cal X.prog X.w X.K X.mg X.base x k (spF X.K R)) (hr : Room k X.A) (ha : A X (ef :: es) δ (.sl i :: as) δ1) (hi : δ1[i]? = some (some (.lst o fd)))
    (hv0 : argsV δ1 as = some bs) (hno0 : slNot i as = true) (hR : R fd bs a fd') (hg : Gl X x := by rfl) (hdb : (x == ("__debug__" : Str)) = false := by decide)
    (he : starEach (ef :: es) X.env = (false, eval ef X.env) :: starEach es X.env := by rfl) (hpl : (backTo pos (starEach es X.env)).any (·.1) = false := by rfl) : E X (.Call (.Name x p) (ef :: es) [] pos) δ a (δ1.set i (some (.lst o fd'))) := by
  have hv := args_of hv0
  have hno := slNot_ne hno0
  obtain ⟨fa, fdd, ps, hm, hk, hb, F⟩ := cl.ex
  refine pe_of (pe_call F hr hg hm hk hb .nil pass0 ha hdb he hpl) fun σ H Q ⟨B, gs, γ, hl, S0, kk⟩ => ⟨B, gs, γ, hl, S0, fun vs H1 hlen S1 => ?_⟩
  show spF X.K R (vs ++ []) H1 Q E0
  rw [List.append_nil]
  cases vs with
  | nil => simp at hlen
  | cons v vs =>
    rw [List.map_cons, List.map_cons, List.append_cons, List.append_cons (δ1 ++ γ)] at S1
    have hi' : (δ1 ++ γ)[i]? = some (some (.lst o fd)) := getq_append_left' hi
    have len1 : vs.length = as.length := by simpa using hlen
    obtain ⟨_, h2⟩ := vals_args (δ := δ1) (l := σ ++ gs ++ [some v]) (m' := δ1 ++ γ ++ [some (.sl i)]) (fun j q e => getq_append_left' (sub_app j q e)) len1 S1 hv
    have hv0 : (σ ++ gs ++ [some v])[i]? = some (some v) := h2.last
    obtain ⟨u, g1, pp, ev, _, hB, hL⟩ := h2.rel i _ (getq_append_left' hi')
    rw [hv0] at g1
    cases g1
    subst ev
    have hil : i < (σ ++ gs).length := by
      have z := h2.pop.len
      have z2 := (List.getElem?_eq_some_iff.mp hi').1
      omega
    have hv1 : (σ ++ gs)[i]? = some (some (V.ref pp)) := by
      rw [List.getElem?_append_left hil] at hv0
      exact hv0
    obtain ⟨h1, _⟩ := args_hide (δ := δ1) (fun j q e => getq_append_left' (sub_app j q e)) (getq_append_left' hi') hv0 len1 S1 hv hno
    refine ⟨pp, vs, bs, a, fd, fd', rfl, hL, hR, h1, fun v H' hs hL' hres => kk v H' ?_⟩
    have S2 := h2.pop.mutG hi' hv1 (fun b o e => hide_same _ _ (hs _ _ e)) hL'
    have e2 : (δ1 ++ γ).set i (some (.lst o fd')) = δ1.set i (some (.lst o fd')) ++ γ := List.set_append_left _ _ (List.getElem?_eq_some_iff.mp hi).1
    rw [e2] at S2
    refine h2.pop.res S2 (fun j c h1 h2 => ?_) hres
    rw [← e2] at h1
    by_cases hj : i = j
    · subst hj
      exact ⟨_, hi', .inl ⟨_, _, rfl⟩⟩
    · rw [List.getElem?_set_ne hj] at h1
      exact ⟨c, h1, h2⟩
end
end G
end FW5
section FW6
set_option Elab.async false
set_option linter.all false
set_option maxRecDepth 100000
set_option maxHeartbeats 4000000
namespace G
open PySem L2
section
variable {P : Program} {w : World} {K : PySem.W.Frag} {mg : Str → Option Value} {base : Heap} {H H' : Hp}
/-! ### an instance's fields -/
theorem lookup_keys {α β : Type} : ∀ {vs : List (Str × α)} {fs : List (Str × β)} {x : Str}, vs.map (·.1) = fs.map (·.1) → fs.lookup x = none → vs.lookup x = none
  | [], [], _, _, _ => rfl
  | [], _ :: _, _, h, _ => by simp at h
  | _ :: _, [], _, h, _ => by simp at h
  | (a, v) :: vs, (b, w) :: fs, x, h, e => by
    simp only [List.map_cons, List.cons.injEq] at h
    obtain ⟨rfl, h⟩ := h
    simp only [List.lookup_cons] at e ⊢
    split at e
    · cases e
    · exact lookup_keys h e
theorem lookup_dp : ∀ {vs : List (Str × V)} {fs : List (Str × PyData)} {x : Str} {d : PyData}, vs.map (·.1) = fs.map (·.1) → DpAll K H (vs.map (·.2)) (fs.map (·.2)) → fs.lookup x = some d → ∃ v, vs.lookup x = some v ∧ Dp K H v d
  | [], [], _, _, _, _, e => by simp at e
  | [], _ :: _, _, _, h, _, _ => by simp at h
  | _ :: _, [], _, _, h, _, _ => by simp at h
  | (a, v) :: vs, (b, w) :: fs, x, d, h, hd, e => by
    simp only [List.map_cons, List.cons.injEq] at h
    obtain ⟨rfl, h⟩ := h
    simp only [List.map_cons] at hd
    cases hd with
    | cons h1 h2 =>
      simp only [List.lookup_cons] at e ⊢
      split at e
      · cases e
        exact ⟨v, rfl, h1⟩
      · exact lookup_dp h h2 e
theorem lookup_noL : ∀ {fs : List (Str × PyData)} {x : Str} {d : PyData}, noLs (fs.map (·.2)) = true → fs.lookup x = some d → noL d = true
  | [], _, _, _, e => by simp at e
  | (b, w) :: fs, x, d, h, e => by
    simp only [List.map_cons] at h
    rw [noLs, Bool.and_eq_true] at h
    simp only [List.lookup_cons] at e
    split at e
    · cases e
      exact h.1
    · exact lookup_noL h.2 e
end
section
variable {X : Cx} {δ δ1 δ2 δ3 : Ab} {a b c : AV} {e e1 e2 e3 o : Expr} {pos p p1 apos : Pos} {as bs : List AV} {es : List Expr} {k : Nat} {x mt f : Str} {C : Addr} {fs gs : List (Str × PyData)} {d : PyData} {ds : List PyData}
theorem ins_of {K : PySem.W.Frag} {B H : Hp} {l : L2.St} {v : V} (h : Rl K B H l v (.ins C fs)) : RlIns K H v C fs := h
theorem e_fld (h : E X o δ (.ins C fs) δ1) (hc : Cls X.K C) (hn : NoAttr X.K C f) (hl : fs.lookup f = some d) (hb : attributeBase o f X.env (eval o X.env) = eval o X.env := by rfl) : E X (.Attribute o f pos) δ (.dat d) δ1 :=
  pe_of (pe_fld h hb) fun σ H Q ⟨B, gs, γ, hlen, S0, kk⟩ => ⟨B, gs, γ, hlen, S0, fun v H1 S1 => by
    obtain ⟨n, q, dx, vs, ev, hq, hk, hd⟩ := ins_of S1.last
    obtain ⟨u, hu, hdu⟩ := lookup_dp hk hd hl
    exact ⟨q, C, dx, vs, u, ev, hq, hc, hn, hu, kk _ _ (S1.pop.pushP (a := .dat d) (.inr ⟨lookup_noL n hl, hdu⟩) rfl)⟩⟩
/-- o.m(e, ..) -/
theorem e_meth {R : List AV → AV → Prop} (cl : MCal X.prog X.w X.K X.mg X.base C mt k (spP X.K R)) (hr : Room k X.A) (ho : E X o δ (.ins C fs) δ1) (hl : fs.lookup mt = none) (ha : A X (e :: es) δ1 as δ2) (hv0 : argsV δ2 as = some bs) (hR : R (.ins C fs :: bs) a)
    (hst : starEach (e :: es) X.env = (false, eval e X.env) :: starEach es X.env := by rfl) (hpl : (backTo pos (starEach es X.env)).any (·.1) = false := by rfl) {pl : Sem Bool}
    (ht : eval (.Call (.Attribute o mt apos) (e :: es) [] pos) X.env = (do
      let ov ← eval o X.env
      standAt apos.atName
      let (f, first) ← holding [ov] (getMethod ov mt pl)
      callWith pos f first (backTo pos (starEach (e :: es) X.env)) (backToKw pos (keywordEach [] X.env))) := by rfl) :
    E X (.Call (.Attribute o mt apos) (e :: es) [] pos) δ a δ2 := by
  have hv := args_of hv0
  obtain ⟨fa, fd, ps, hc, hm, hb, F⟩ := cl.ex
  refine pe_of (pe_meth ho hc hm F hr hb .nil pass0 ha hst hpl ht) fun σ H Q ⟨B, gs, γ, hlen, S0, kk⟩ => ⟨B, gs, γ, hlen, S0, fun v H1 S1 => ?_⟩
  obtain ⟨n, q, dx, vs, ev, hq, hk, hd⟩ := ins_of S1.last
  refine ⟨q, dx, vs, ev, hq, lookup_keys hk hl, B, gs ++ [some v], γ ++ [some (.ins C fs)], SR.len3 hlen S0 S1, by rw [← List.append_assoc, ← List.append_assoc]; exact S1, fun us H2 hlu S2 => ?_⟩
  rw [← List.append_assoc, ← List.append_assoc] at S2
  obtain ⟨h1, h2⟩ := vals_args (fun i q e => getq_append_left' (sub_app i q e)) hlu S2 hv
  show spP X.K R (v :: (us ++ [])) H2 Q E0
  rw [List.append_nil]
  exact ⟨_, a, hR, .cons (ins_of h2.last) h1, fun z H' hs hres => kk z H' (h2.pop.res (h2.pop.same hs) (fun i c h1 h2 => ⟨c, h1, h2⟩) hres)⟩
theorem e_meth0 {R : List AV → AV → Prop} (cl : MCal X.prog X.w X.K X.mg X.base C mt k (spP X.K R)) (hr : Room k X.A) (ho : E X o δ (.ins C fs) δ1) (hl : fs.lookup mt = none) (hR : R [.ins C fs] a) {pl : Sem Bool}
    (ht : eval (.Call (.Attribute o mt apos) [] [] pos) X.env = (do
      let ov ← eval o X.env
      standAt apos.atName
      let (f, first) ← holding [ov] (getMethod ov mt pl)
      callWith pos f first (backTo pos (starEach [] X.env)) (backToKw pos (keywordEach [] X.env))) := by rfl) :
    E X (.Call (.Attribute o mt apos) [] [] pos) δ a δ1 := by
  obtain ⟨fa, fd, ps, hc, hm, hb, F⟩ := cl.ex
  refine pe_of (pe_meth0 ho hc hm F hr hb .nil pass0 ht) fun σ H Q ⟨B, gs, γ, hlen, S0, kk⟩ => ⟨B, gs, γ, hlen, S0, fun v H1 S1 => ?_⟩
  obtain ⟨n, q, dx, vs, ev, hq, hk, hd⟩ := ins_of S1.last
  exact ⟨q, dx, vs, ev, hq, lookup_keys hk hl, _, a, hR, .cons (ins_of S1.last) .nil, fun z H' hs hres => kk z H' (S1.pop.res (S1.pop.same hs) (fun i c h1 h2 => ⟨c, h1, h2⟩) hres)⟩
/-- C(e, ..) -/
theorem e_make {R : List AV → List (Str × PyData) → Prop} (cl : KCal X.prog X.w X.K X.mg X.base C x k R) (hr : Room (k + 1) X.A) (ha : A X (e :: es) δ as δ1) (hv0 : argsV δ1 as = some bs) (hR : R bs fs) (hg : Gl X x := by rfl) (hdb : (x == ("__debug__" : Str)) = false := by decide)
    (he : starEach (e :: es) X.env = (false, eval e X.env) :: starEach es X.env := by rfl) (hpl : (backTo pos (starEach es X.env)).any (·.1) = false := by rfl) : E X (.Call (.Name x p) (e :: es) [] pos) δ (.ins C fs) δ1 := by
  have hv := args_of hv0
  obtain ⟨fa, fd, ps, hm, M, hb, F⟩ := cl.ex
  refine pe_of (pe_make M F hr hg hm hb .nil pass0 ha hdb he hpl) fun σ H Q ⟨B, gs, γ, hlen, S0, kk⟩ => ⟨B, gs, γ, hlen, S0, fun us H1 hlu S1 => ?_⟩
  obtain ⟨h1, h2⟩ := vals_args sub_app hlu S1 hv
  intro y dx hy hdx hne
  show spI X.K C R (.ref y :: (us ++ [])) _ _ E0
  rw [List.append_nil]
  refine ⟨y, dx, us, bs, fs, H1, rfl, fun b o e => ?_, hy, upd_same, hR, h1, fun H' hs hins => ⟨rfl, kk _ _ ?_⟩⟩
  · rw [upd_ne (ne_of_none e hy), upd_ne (ne_of_none e hdx)]
    exact e
  · exact (h2.same hs).pushP (a := .ins C fs) hins rfl

/-! ### own operators -/
def rOwn (C : Addr) (sp : Sp) : R2 := fun x y H Q => ∃ p q dx dy fs gs, x = V.ref p ∧ y = V.ref q ∧ H p = some (.ins C dx fs) ∧ H q = some (.ins C dy gs) ∧ sp [x, y] H Q E0
theorem op_own {op : Operator} {sp : Sp} {fa : Addr} {fd : FuncData} {ps : List Str} (F : FnOk X.prog X.w X.K X.mg X.base CX0 k fa fd ps sp) (hr : Room k X.A) (hb : Binds X.K fd ps []) (hf : PySem.W.selfFirst X.K C = true)
    (hs : PySem.W.findIn X.K (.ref C) (PySem.dunder op.info.2) = some (some (.ref fa))) (hi : PySem.W.isFn X.K (.ref fa) = true) : OpR X (binaryOp op) (rOwn C sp) := by
  intro pins s σ H x y v u Q I rx ry h
  obtain ⟨a, b, dx, dy, fs, gs, rfl, rfl, ha, hb', hsp⟩ := h
  cases rx
  cases ry
  obtain ⟨mA, J, _⟩ := ins_get I.hok ha
  obtain ⟨mB, J', _⟩ := ins_get I.hok hb'
  obtain ⟨od, J, _⟩ := J.look
  obtain ⟨od', J', _⟩ := J'.look
  obtain ⟨m, hF⟩ := I.fr
  refine PySem.W.binop_K hF I.ok.mod.kin J J'.type hf hs hi ?_
  refine thn (run_fn (us := [.ref a, .ref b]) (vs := [.ref a, .ref b]) F hr hb .nil pass0 I (.cons rfl (.cons rfl .nil)) (by rw [List.append_nil]; exact hsp)) fun r s' q => ?_
  obtain ⟨z, H', I', rz, q⟩ := q
  have fin : EP X pins σ Q r s' := ⟨z, H', I', rz, q⟩
  cases z with
  | non => cases rz; exact fin
  | bl _ => cases rz; exact fin
  | int _ => obtain ⟨t, rfl⟩ := rz; exact fin
  | str _ => obtain ⟨t, rfl⟩ := rz; exact fin
  | byt _ => obtain ⟨t, rfl⟩ := rz; exact fin
  | flt _ => obtain ⟨t, rfl⟩ := rz; exact fin
  | ref _ => cases rz; exact fin
  | ty _ => cases rz; exact fin
theorem e_own {op : Operator} {R : List AV → AV → Prop} (cl : MCal X.prog X.w X.K X.mg X.base C mt k (spP X.K R)) (hr : Room k X.A) (hf : PySem.W.selfFirst X.K C = true) (ha : E X e1 δ (.ins C fs) δ1) (hb : E X e2 δ1 (.ins C gs) δ2) (hR : R [.ins C fs, .ins C gs] a)
    (hd : PySem.dunder op.info.2 = mt := by decide) : E X (.BinOp e1 op e2 pos) δ a δ2 := by
  obtain ⟨fa, fd, ps, hc, hm, hb', F⟩ := cl.ex
  refine e_op (op_own F hr hb' hf (by rw [hd]; exact hm.at_) hm.fn) ha hb fun B H l m x y Q _ S kk => ?_
  obtain ⟨n, q, dx, vs, ev, hq, hk, hd⟩ := ins_of S.pop.last
  obtain ⟨n2, q2, dx2, vs2, ev2, hq2, hk2, hd2⟩ := ins_of S.last
  exact ⟨q, q2, dx, dx2, vs, vs2, ev, ev2, hq, hq2, _, a, hR, .cons (ins_of S.pop.last) (.cons (ins_of S.last) .nil), fun z H' hs hres => kk z H' (S.pop.pop.res (S.pop.pop.same hs) (fun i c h1 h2 => ⟨c, h1, h2⟩) hres)⟩
/-- x in o -/
def rInO (C : Addr) (sp : Sp) : R2 := fun x y H Q => ∃ q dy gs, y = V.ref q ∧ H q = some (.ins C dy gs) ∧ sp [y, x] H (fun v H' => ∃ k, v = V.bl k ∧ Q (.bl k) H') E0
theorem op_inO {sp : Sp} {fa : Addr} {fd : FuncData} {ps : List Str} (F : FnOk X.prog X.w X.K X.mg X.base CX0 k fa fd ps sp) (hr : Room k X.A) (hb : Binds X.K fd ps [])
    (hs : PySem.W.findIn X.K (.ref C) "__contains__" = some (some (.ref fa))) (hi : PySem.W.isFn X.K (.ref fa) = true) : OpR X (compareOp .In) (rInO C sp) := by
  intro pins s σ H x y v u Q I rx ry h
  obtain ⟨b, dy, gs, rfl, hb', hsp⟩ := h
  cases ry
  obtain ⟨mB, J', _⟩ := ins_get I.hok hb'
  obtain ⟨od', J', _⟩ := J'.look
  obtain ⟨m, hF⟩ := I.fr
  refine PySem.W.in_K hF I.ok.mod.kin J' hs hi ?_
  refine thn (run_fn (us := [.ref b, v]) (vs := [.ref b, x]) F hr hb .nil pass0 I (.cons rfl (.cons rx .nil)) (by rw [List.append_nil]; exact hsp)) fun r s' q => ?_
  obtain ⟨z, H', I', rz, kk, ez, q⟩ := q
  subst ez
  cases rz
  exact wpAny_truthy_bool ⟨.bl kk, H', I', rfl, q⟩
theorem t_inO {R : List AV → AV → Prop} {b0 : Bool} (cl : MCal X.prog X.w X.K X.mg X.base C "__contains__" k (spP X.K R)) (hr : Room k X.A) (ha : E X e1 δ a δ1) (hb : E X e2 δ1 (.ins C gs) δ2) (hv : argView δ2 a = some b) (hR : R [.ins C gs, b] (.dat (.bool b0))) (hm : behindInMarks .In e2 = false := by rfl) :
    T X (.Compare e1 [.In] [e2] pos) δ b0 δ2 := by
  obtain ⟨fa, fd, ps, hc, hm', hb', F⟩ := cl.ex
  refine t_cmp (op_inO F hr hb' hm'.at_ hm'.fn) ha hb (fun B H l m x y Q hs S kk => ?_) hm
  obtain ⟨n2, q2, dx2, vs2, ev2, hq2, hk2, hd2⟩ := ins_of S.last
  refine ⟨q2, dx2, vs2, ev2, hq2, _, .dat (.bool b0), hR, .cons (ins_of S.last) (.cons ?_ .nil), fun z H' hs hres => ?_⟩
  · exact arg_of S.pop S.pop.last hv fun i q e => getq_append_left' (hs i q e)
  · have e : z = .bl b0 := by
      cases hres.2
      rfl
    subst e
    exact ⟨b0, rfl, kk _ _ ((S.pop.pop.same hs).pushP rl_bool rfl)⟩
/-- o(e, ..), an instance called -/
theorem e_callO {R : List AV → AV → Prop} (cl : MCal X.prog X.w X.K X.mg X.base C "__call__" k (spP X.K R)) (hfi : ∀ g, PySem.W.findIn X.K (.ref C) "__call__" = some (some (.ref g)) → PySem.W.fnIn X.K g = true) (hr : Room k X.A) (ho : E X o δ (.ins C fs) δ1) (ha : A X (e :: es) δ1 as δ2) (hv0 : argsV δ2 as = some bs) (hR : R (.ins C fs :: bs) a)
    (ht : eval (.Call o (e :: es) [] pos) X.env = (do callWith pos (← eval o X.env) [] (backTo pos (starEach (e :: es) X.env)) (backToKw pos (keywordEach [] X.env))) := by rfl)
    (he : starEach (e :: es) X.env = (false, eval e X.env) :: starEach es X.env := by rfl) (hpl : (backTo pos (starEach es X.env)).any (·.1) = false := by rfl) : E X (.Call o (e :: es) [] pos) δ a δ2 := by
  have hv := args_of hv0
  obtain ⟨fa, fd, ps, hc, hm, hb, F⟩ := cl.ex
  refine pe_of (StX.pe_callO ho ⟨hm.at_, hm.fn, hfi _ hm.at_⟩ (F.raw hb .nil) hr pass0 ha ht he hpl) fun σ H Q ⟨B, gs, γ, hlen, S0, kk⟩ => ⟨B, gs, γ, hlen, S0, fun v H1 S1 => ?_⟩
  obtain ⟨n, q, dx, vs, ev, hq, hk, hd⟩ := ins_of S1.last
  refine ⟨q, ev, B, gs ++ [some v], γ ++ [some (.ins C fs)], SR.len3 hlen S0 S1, by rw [← List.append_assoc, ← List.append_assoc]; exact S1, fun us H2 hlu S2 => ?_⟩
  rw [← List.append_assoc, ← List.append_assoc] at S2
  obtain ⟨h1, h2⟩ := vals_args (fun i q e => getq_append_left' (sub_app i q e)) hlu S2 hv
  obtain ⟨_, q2, dx2, vs2, ev2, hq2, _, _⟩ := ins_of h2.last
  rw [ev] at ev2
  cases ev2
  refine ⟨.inr ⟨dx2, vs2, hq2⟩, ?_⟩
  show spP X.K R ((.ref q :: us) ++ []) H2 Q E0
  rw [List.append_nil, ← ev]
  exact ⟨_, a, hR, .cons (ins_of h2.last) h1, fun z H' hs hres => kk z H' (h2.pop.res (h2.pop.same hs) (fun i c h1 h2 => ⟨c, h1, h2⟩) hres)⟩
end
end G
end FW6
section FW7
set_option Elab.async false
set_option linter.all false
set_option maxRecDepth 100000
set_option maxHeartbeats 4000000
namespace G
open PySem L2
section
variable {X : Cx} {δ δ1 δ2 δ3 : Ab} {a b c : AV} {e e1 e2 e3 o : Expr} {pos p p1 apos : Pos} {as bs : List AV} {es : List Expr} {k : Nat} {x mt f : Str} {C : Addr} {fs gs : List (Str × PyData)} {d : PyData} {ds : List PyData}
/-! ### built-in functions -/
def CallX (K : PySem.W.Frag) (r : List V → Hp → VK → Prop) (δ : Ab) (as : List AV) (c : AV) : Prop := ∀ (B H : Hp) (l : L2.St) (m : Ab) (vs : List V) (Q : VK), (∀ (i : Nat) q, δ[i]? = some q → m[i]? = some q) → vs.length = as.length → SR K B H (l ++ vs.map some) (m ++ as.map some) →
  (∀ z H2, SR K B H2 (l ++ [some z]) (m ++ [some c]) → Q z H2) → r vs H Q
theorem e_blt {id : String} {r : List V → Hp → VK → Prop} (hc : CallR X (.builtin id) r) (hg : Gl X x) (hm : X.mg x = none) (hv : bootBuiltins x = some (.builtin id)) (ha : A X (e :: es) δ as δ1) (h : CallX X.K r δ1 as c) (hn : x ≠ "__name__" := by decide) (hdb : (x == ("__debug__" : Str)) = false := by decide)
    (he : starEach (e :: es) X.env = (false, eval e X.env) :: starEach es X.env := by rfl) (hpl : (backTo pos (starEach es X.env)).any (·.1) = false := by rfl) : E X (.Call (.Name x p) (e :: es) [] pos) δ c δ1 :=
  pe_of (pe_callB hc hg hm hv ha hn hdb he hpl) fun σ H Q ⟨B, gs, γ, hl, S0, k⟩ => ⟨B, gs, γ, hl, S0, fun vs H1 hlen S1 => h B H1 _ _ vs Q sub_app hlen S1 fun z H2 S2 => k z H2 S2⟩
theorem e_bty {id : String} {r : List V → Hp → VK → Prop} (hc : CallR X (.type id) r) (hg : Gl X x) (hm : X.mg x = none) (hv : bootBuiltins x = some (.type id)) (ha : A X (e :: es) δ as δ1) (h : CallX X.K r δ1 as c) (hn : x ≠ "__name__" := by decide) (hdb : (x == ("__debug__" : Str)) = false := by decide)
    (he : starEach (e :: es) X.env = (false, eval e X.env) :: starEach es X.env := by rfl) (hpl : (backTo pos (starEach es X.env)).any (·.1) = false := by rfl) : E X (.Call (.Name x p) (e :: es) [] pos) δ c δ1 :=
  pe_of (pe_callTy hc hg hm hv ha hn hdb he hpl) fun σ H Q ⟨B, gs, γ, hl, S0, k⟩ => ⟨B, gs, γ, hl, S0, fun vs H1 hlen S1 => h B H1 _ _ vs Q sub_app hlen S1 fun z H2 S2 => k z H2 S2⟩
theorem one_of {K : PySem.W.Frag} {B H : Hp} {l : L2.St} {m : Ab} {vs : List V} (hl : vs.length = [a].length) (S : SR K B H (l ++ vs.map some) (m ++ [a].map some)) : ∃ v, vs = [v] ∧ SR K B H (l ++ [some v]) (m ++ [some a]) := by
  match vs, hl with
  | [v], _ => exact ⟨v, rfl, S⟩
theorem two_of {K : PySem.W.Frag} {B H : Hp} {l : L2.St} {m : Ab} {vs : List V} (hl : vs.length = [a, b].length) (S : SR K B H (l ++ vs.map some) (m ++ [a, b].map some)) : ∃ v w, vs = [v, w] ∧ SR K B H (l ++ [some v] ++ [some w]) (m ++ [some a] ++ [some b]) := by
  match vs, hl with
  | [v, w], _ => exact ⟨v, w, rfl, by rw [← List.append_cons, ← List.append_cons]; exact S⟩
theorem a_one (h : E X e δ a δ1) (hs : starEach [e] X.env = (false, eval e X.env) :: starEach [] X.env := by rfl) : A X [e] δ [a] δ1 := a_cons h a_nil hs
def lenV (δ : Ab) (a : AV) : Option Nat := match view δ a with
  | some (.list ds) => some ds.length
  | some (.tuple ds) => some ds.length
  | _ => none
theorem lenV_of {n : Nat} (h : lenV δ a = some n) : ∃ ds, n = ds.length ∧ (view δ a = some (.list ds) ∨ view δ a = some (.tuple ds)) := by
  unfold lenV at h
  split at h
  · rename_i ds h1
    cases h
    exact ⟨ds, rfl, .inl h1⟩
  · rename_i ds h1
    cases h
    exact ⟨ds, rfl, .inr h1⟩
  · cases h
theorem e_len {n : Nat} (ha : E X e δ a δ1) (hd : lenV δ1 a = some n) (hm : X.mg "len" = none) (hg : Gl X "len" := by rfl) (hs : starEach [e] X.env = (false, eval e X.env) :: starEach [] X.env := by rfl) : E X (.Call (.Name "len" p) [e] [] pos) δ (.dat (.int n)) δ1 :=
  e_blt call_len_seq hg hm PySem.boot_len (a_one ha hs) (fun B H l m vs Q hsub hl S k => by
    obtain ⟨v, rfl, S⟩ := one_of hl S
    obtain ⟨ds, en, hd2⟩ := lenV_of hd
    rw [en] at k
    rcases hd2 with hd | hd
    · obtain ⟨q, ws, rfl, hq, hi⟩ := S.list S.last (view_app (view_sub hsub hd))
      exact ⟨q, ws, rfl, .inl hq, by rw [dps_len hi.1]; exact k _ _ (S.pop.pushP rl_int rfl)⟩
    · obtain ⟨q, ws, rfl, hq, hi⟩ := S.tuple S.last (view_app (view_sub hsub hd))
      exact ⟨q, ws, rfl, .inr hq, by rw [dps_len hi.1]; exact k _ _ (S.pop.pushP rl_int rfl)⟩) (he := hs)
theorem e_all {bl : List Bool} (hcalm : X.calm = true) (ha : E X e δ a δ1) (hm : X.mg "all" = none) (hd : view δ1 a = some (.list (bl.map .bool)) := by rfl) (hg : Gl X "all" := by rfl) (hs : starEach [e] X.env = (false, eval e X.env) :: starEach [] X.env := by rfl) : E X (.Call (.Name "all" p) [e] [] pos) δ (.dat (.bool (bl.all id))) δ1 :=
  e_blt (cr_all hcalm) hg hm (by decide +kernel) (a_one ha hs) (fun B H l m vs Q hsub hl S k => by
    obtain ⟨v, rfl, S⟩ := one_of hl S
    obtain ⟨q, ws, rfl, hq, hi⟩ := S.list S.last (view_app (view_sub hsub hd))
    have e := dps_bools hi.1
    subst e
    exact ⟨q, bl, rfl, hq, k _ _ (S.pop.pushP rl_bool rfl)⟩) (he := hs)
theorem e_any {bl : List Bool} (hcalm : X.calm = true) (ha : E X e δ a δ1) (hm : X.mg "any" = none) (hd : view δ1 a = some (.list (bl.map .bool)) := by rfl) (hg : Gl X "any" := by rfl) (hs : starEach [e] X.env = (false, eval e X.env) :: starEach [] X.env := by rfl) : E X (.Call (.Name "any" p) [e] [] pos) δ (.dat (.bool (bl.any id))) δ1 :=
  e_blt (cr_any hcalm) hg hm (by decide +kernel) (a_one ha hs) (fun B H l m vs Q hsub hl S k => by
    obtain ⟨v, rfl, S⟩ := one_of hl S
    obtain ⟨q, ws, rfl, hq, hi⟩ := S.list S.last (view_app (view_sub hsub hd))
    have e := dps_bools hi.1
    subst e
    exact ⟨q, bl, rfl, hq, k _ _ (S.pop.pushP rl_bool rfl)⟩) (he := hs)
theorem e_sum {is : List Int} (hcalm : X.calm = true) (ha : E X e δ a δ1) (hm : X.mg "sum" = none) (hd : view δ1 a = some (.list (is.map .int)) := by rfl) (hg : Gl X "sum" := by rfl) (hs : starEach [e] X.env = (false, eval e X.env) :: starEach [] X.env := by rfl) : E X (.Call (.Name "sum" p) [e] [] pos) δ (.dat (.int is.sum)) δ1 :=
  e_blt (cr_sum hcalm) hg hm (by decide +kernel) (a_one ha hs) (fun B H l m vs Q hsub hl S k => by
    obtain ⟨v, rfl, S⟩ := one_of hl S
    obtain ⟨q, ws, rfl, hq, hi⟩ := S.list S.last (view_app (view_sub hsub hd))
    have e := dps_ints hi.1
    subst e
    exact ⟨q, is, rfl, hq, k _ _ (S.pop.pushP rl_int rfl)⟩) (he := hs)
/-- tuple(xs), xs a list -/
theorem e_tupleL (ha : E X e δ a δ1) (hm : X.mg "tuple" = none) (hn : noLs ds = true) (hd : view δ1 a = some (.list ds) := by rfl) (hg : Gl X "tuple" := by rfl) (hs : starEach [e] X.env = (false, eval e X.env) :: starEach [] X.env := by rfl) : E X (.Call (.Name "tuple" p) [e] [] pos) δ (.dat (.tuple ds)) δ1 :=
  e_bty call_tuple_of hg hm (by decide +kernel) (a_one ha hs) (fun B H l m vs Q hsub hl S k => by
    obtain ⟨v, rfl, S⟩ := one_of hl S
    obtain ⟨q, ws, rfl, hq, hi⟩ := S.list S.last (view_app (view_sub hsub hd))
    exact ⟨q, ws, rfl, .inl ⟨hq, fun t ht => k _ _ ((S.pop.same (same_new ht)).pushP (a := .dat _) (.inr ⟨hn, .tup (SqT.of upd_same) (dps_same (same_new ht) _ _ hi.1)⟩) rfl)⟩⟩) (he := hs)
theorem e_listL (ha : E X e δ a δ1) (hm : X.mg "list" = none) (hn : noLs ds = true) (hd : view δ1 a = some (.list ds) := by rfl) (hg : Gl X "list" := by rfl) (hs : starEach [e] X.env = (false, eval e X.env) :: starEach [] X.env := by rfl) : E X (.Call (.Name "list" p) [e] [] pos) δ (.lst none ds) δ1 :=
  e_bty call_list_of hg hm (by decide +kernel) (a_one ha hs) (fun B H l m vs Q hsub hl S k => by
    obtain ⟨v, rfl, S⟩ := one_of hl S
    obtain ⟨q, ws, rfl, hq, hi⟩ := S.list S.last (view_app (view_sub hsub hd))
    exact ⟨q, ws, rfl, .inl hq, fun t ht => k _ _ (S.pop.pushN (same_new ht) (fun _ z => by cases z) ht ⟨hn, _, upd_same, dps_same (same_new ht) _ _ hi.1⟩)⟩) (he := hs)
theorem e_abs {i : Int} (ha : E X e δ (.dat (.int i)) δ1) (hm : X.mg "abs" = none) (hg : Gl X "abs" := by rfl) (hs : starEach [e] X.env = (false, eval e X.env) :: starEach [] X.env := by rfl) : E X (.Call (.Name "abs" p) [e] [] pos) δ (.dat (.int (i.natAbs : Int))) δ1 :=
  e_blt call_abs hg hm (by decide +kernel) (a_one ha hs) (fun B H l m vs Q hsub hl S k => by
    obtain ⟨v, rfl, S⟩ := one_of hl S
    have e : (if i < 0 then -i else i) = (i.natAbs : Int) := by split <;> omega
    exact ⟨i, by rw [int_of S.last], by rw [e]; exact k _ _ (S.pop.pushP rl_int rfl)⟩) (he := hs)
theorem e_int1 {i : Int} (ha : E X e δ (.dat (.int i)) δ1) (hm : X.mg "int" = none) (hg : Gl X "int" := by rfl) (hs : starEach [e] X.env = (false, eval e X.env) :: starEach [] X.env := by rfl) : E X (.Call (.Name "int" p) [e] [] pos) δ (.dat (.int i)) δ1 :=
  e_bty call_int1 hg hm (by decide +kernel) (a_one ha hs) (fun B H l m vs Q hsub hl S k => by
    obtain ⟨v, rfl, S⟩ := one_of hl S
    exact .inl ⟨i, by rw [int_of S.last], k _ _ (S.pop.pushP rl_int rfl)⟩) (he := hs)
theorem e_max2 {i j : Int} (hcalm : X.calm = true) (ha : A X [e1, e2] δ [.dat (.int i), .dat (.int j)] δ1) (hm : X.mg "max" = none) (hg : Gl X "max" := by rfl) (hs : starEach [e1, e2] X.env = (false, eval e1 X.env) :: starEach [e2] X.env := by rfl) (hpl : (backTo pos (starEach [e2] X.env)).any (·.1) = false := by rfl) :
    E X (.Call (.Name "max" p) [e1, e2] [] pos) δ (.dat (.int (if j > i then j else i))) δ1 :=
  e_blt (call_max2 hcalm) hg hm (by decide +kernel) ha (fun B H l m vs Q hsub hl S k => by
    obtain ⟨v, w, ev, S2⟩ := two_of hl S
    exact ⟨i, j, by rw [ev, int_of S2.last, int_of S2.pop.last], k _ _ (S2.pop.pop.pushP rl_int rfl)⟩) (he := hs) (hpl := hpl)
theorem e_min2 {i j : Int} (hcalm : X.calm = true) (ha : A X [e1, e2] δ [.dat (.int i), .dat (.int j)] δ1) (hm : X.mg "min" = none) (hg : Gl X "min" := by rfl) (hs : starEach [e1, e2] X.env = (false, eval e1 X.env) :: starEach [e2] X.env := by rfl) (hpl : (backTo pos (starEach [e2] X.env)).any (·.1) = false := by rfl) :
    E X (.Call (.Name "min" p) [e1, e2] [] pos) δ (.dat (.int (if j < i then j else i))) δ1 :=
  e_blt (call_min2 hcalm) hg hm (by decide +kernel) ha (fun B H l m vs Q hsub hl S k => by
    obtain ⟨v, w, ev, S2⟩ := two_of hl S
    exact ⟨i, j, by rw [ev, int_of S2.last, int_of S2.pop.last], k _ _ (S2.pop.pop.pushP rl_int rfl)⟩) (he := hs) (hpl := hpl)
/-- isinstance of data -/
def tyN : PyData → String
  | .none => "NoneType"
  | .bool _ => "bool"
  | .int _ => "int"
  | .str _ => "str"
  | .list _ => "list"
  | .tuple _ => "tuple"
  | .dict _ => "dict"
theorem tyx_of {K : PySem.W.Frag} {H : Hp} {v : V} (h : Dp K H v d) (hs : ∀ z, d ≠ .str z) : TyX K H v (if isNone d then .none else .type (tyN d)) ∨ d = .none := by
  cases h with
  | non => exact .inr rfl
  | bl b => exact .inl (.base (.bl b))
  | int i => exact .inl (.base (.int i))
  | str x => exact absurd rfl (hs x)
  | lst hq ha =>
    rcases hq with (hq | ⟨o, hq⟩) | ⟨o, its, n, hk, hc, _⟩
    · exact .inl (.base (.lst hq))
    · exact .inl (.base (.frz hq))
    · exact .inl (.kList hk hc)
  | tup hq ha =>
    rcases hq with (hq | ⟨o, hq⟩) | ⟨o, its, n, hk, hc, _⟩
    · exact .inl (.base (.tup hq))
    · exact .inl (.fTuple hq)
    · exact .inl (.kTuple hk hc)
def tyTab : PyData → Bool
  | .bool _ => true
  | .int _ => true
  | .list _ => true
  | .tuple _ => true
  | _ => false
theorem e_isi {T : String} (r : Bool) (tn : String) {pT : Pos} (ha : E X e δ a δ1) (hT : X.mg T = none) (hm : X.mg "isinstance" = none) (hd : view δ1 a = some d) (ht : tyTab d = true := by rfl) (htn : tyN d = tn := by rfl) (hk0 : kitB tn T = some r := by decide +kernel) (hb : bootBuiltins T = some (.type T) := by decide +kernel) (hgT : Gl X T := by rfl) (hg : Gl X "isinstance" := by rfl)
    (hn : (T : Str) ≠ "__name__" := by decide) (hdb : ((T : Str) == ("__debug__" : Str)) = false := by decide)
    (hs : starEach [e, .Name T pT] X.env = (false, eval e X.env) :: starEach [.Name T pT] X.env := by rfl) (hs2 : starEach [.Name T pT] X.env = (false, eval (.Name T pT) X.env) :: starEach [] X.env := by rfl) (hpl : (backTo pos (starEach [.Name T pT] X.env)).any (·.1) = false := by rfl) :
    E X (.Call (.Name "isinstance" p) [e, .Name T pT] [] pos) δ (.dat (.bool r)) δ1 := by
  have hk : kitB (tyN d) T = some r := by rw [htn]; exact hk0
  have hA : PA X [e, .Name T pT] (tCons (tE X.K δ a δ1) (tCons (tC (.ty T)) tNil)) := pa_cons ha (pa_cons (pe_bltn hgT hT hb rfl hn hdb) pa_nil hs2) hs
  refine pe_of (pe_callB call_isi hg hm (by decide +kernel) hA (he := hs) (hpl := hpl)) fun σ H Q ⟨B, gs, γ, hl, S0, k⟩ => ⟨B, gs, γ, hl, S0, fun x H1 S1 => ?_⟩
  have D := S1.dp S1.last (view_app (view_app hd))
  have ty := tyx_of D fun z q => by rw [q] at ht; cases ht
  have hN : isNone d = false := by cases d <;> first | rfl | cases ht
  rw [hN] at ty
  rcases ty with ty | q
  · exact ⟨x, .ty T, .type (tyN d), .type T, r, rfl, .ty T, ty, kit_ty hk, k _ _ (S1.pop.pushP rl_bool rfl)⟩
  · rw [q] at ht
    cases ht
end
end G
end FW7
section FW8
set_option Elab.async false
set_option linter.all false
set_option maxRecDepth 100000
set_option maxHeartbeats 4000000
namespace G
open PySem L2
section
variable {K : PySem.W.Frag} {B H H' : Hp} {l l' r : L2.St} {δ δ0 δ' m m' ρ : Ab} {v x : V} {a : AV} {as : List AV} {d : PyData} {ds : List PyData} {σ σ' σ0 gs : L2.St} {γ : Ab} {j : Nat}
/-! ### slots that are filled for a while -/
/-- δ' is δ0 with some empty slots filled -/
structure Ups (δ0 δ' : Ab) : Prop where
  len : δ0.length = δ'.length
  up : ∀ (i : Nat) a, δ0[i]? = some (some a) → δ'[i]? = some (some a)
  dn : ∀ (i : Nat) o ds, δ'[i]? = some (some (.lst o ds)) → δ0[i]? = some (some (.lst o ds))
theorem Ups.refl : Ups δ0 δ0 := ⟨rfl, fun _ _ h => h, fun _ _ _ h => h⟩
theorem Ups.trans {δ1 : Ab} (a : Ups δ0 δ1) (b : Ups δ1 δ') : Ups δ0 δ' := ⟨a.len.trans b.len, fun i c h => b.up i c (a.up i c h), fun i o ds h => a.dn i o ds (b.dn i o ds h)⟩
theorem Ups.set (h : δ0[j]? = some none) : Ups δ0 (δ0.set j (some (.dat d))) := by
  have hj : j < δ0.length := (List.getElem?_eq_some_iff.mp h).1
  refine ⟨by rw [List.length_set], fun i a e => ?_, fun i o ds e => ?_⟩
  · by_cases hi : j = i
    · subst hi
      rw [h] at e
      cases e
    · rw [List.getElem?_set_ne hi]
      exact e
  · by_cases hi : j = i
    · subst hi
      rw [List.getElem?_set_self hj] at e
      cases e
    · rw [List.getElem?_set_ne hi] at e
      exact e
theorem SR.lower (S : SR K B H (σ' ++ r) (δ' ++ ρ)) (hl : σ'.length = δ'.length) (hl0 : σ0.length = δ0.length) (u : Ups δ0 δ') (ag : ∀ (i : Nat) a, δ0[i]? = some (some a) → σ0[i]? = σ'[i]?) : SR K B H (σ0 ++ r) (δ0 ++ ρ) := by
  have len := u.len
  have up : ∀ (i : Nat) a, (δ0 ++ ρ)[i]? = some (some a) → (δ' ++ ρ)[i]? = some (some a) := fun i a e => by
    by_cases hi : i < δ0.length
    · rw [List.getElem?_append_left hi] at e
      rw [List.getElem?_append_left (by omega)]
      exact u.up i a e
    · rw [List.getElem?_append_right (by omega)] at e ⊢
      rw [← len]
      exact e
  have eqv : ∀ (i : Nat), (¬ i < δ0.length) → (σ0 ++ r)[i]? = (σ' ++ r)[i]? := fun i hi => by
    rw [List.getElem?_append_right (by omega), List.getElem?_append_right (by omega), hl0, hl, len]
  have ag2 : ∀ (i : Nat) a, (δ0 ++ ρ)[i]? = some (some a) → (σ0 ++ r)[i]? = (σ' ++ r)[i]? := fun i a e => by
    by_cases hi : i < δ0.length
    · rw [List.getElem?_append_left hi] at e
      rw [List.getElem?_append_left (by omega), List.getElem?_append_left (by omega)]
      exact ag i a e
    · exact eqv i hi
  refine S.to (by rw [List.length_append, List.length_append, hl0]; have := S.len; rw [List.length_append, List.length_append] at this; omega) up ag2 fun k i e => ?_
  obtain ⟨_, o, ds, h2⟩ := S.back k i (up k _ e)
  have h3 : (δ0 ++ ρ)[i]? = some (some (.lst o ds)) := by
    by_cases hi : i < δ0.length
    · rw [List.getElem?_append_left (by omega)] at h2
      rw [List.getElem?_append_left hi]
      exact u.dn i o ds h2
    · rw [List.getElem?_append_right (by omega)] at h2 ⊢
      rw [len]
      exact h2
  exact ⟨ag2 i _ h3, o, ds, h3⟩
theorem SR.fill (S : SR K B H l m) (h : m[j]? = some none) (hx : Stay K B H x d) : SR K B H (l.set j (some x)) (m.set j (some (.dat d))) := by
  have hj : j < m.length := (List.getElem?_eq_some_iff.mp h).1
  have at_ : ∀ {i : Nat} {c : AV}, (m.set j (some (.dat d)))[i]? = some (some c) → (i = j ∧ c = .dat d) ∨ (i ≠ j ∧ m[i]? = some (some c) ∧ (l.set j (some x))[i]? = l[i]?) := fun {i c} e => by
    by_cases hi : j = i
    · subst hi
      rw [List.getElem?_set_self hj] at e
      exact .inl ⟨rfl, (Option.some.inj (Option.some.inj e)).symm⟩
    · rw [List.getElem?_set_ne hi] at e
      exact .inr ⟨Ne.symm hi, e, List.getElem?_set_ne hi⟩
  refine ⟨S.base, by rw [List.length_set, List.length_set, S.len], fun i c e => ?_, fun i k o ds c e1 e2 h3 h4 => ?_, fun k i e => ?_⟩
  · rcases at_ e with ⟨rfl, rfl⟩ | ⟨hi, e, q⟩
    · exact ⟨x, List.getElem?_set_self (by rw [S.len]; exact hj), hx⟩
    · obtain ⟨u, h1, h2⟩ := S.rel i c e
      refine ⟨u, q.trans h1, ?_⟩
      cases c with
      | sl k =>
        have h2 : l[k]? = some (some u) := h2
        show (l.set j (some x))[k]? = some (some u)
        obtain ⟨_, o, ds, hk⟩ := S.back i k e
        rw [List.getElem?_set_ne (fun z => by rw [z] at h; rw [h] at hk; cases hk)]
        exact h2
      | _ => exact h2
  · rcases at_ e1 with ⟨_, q⟩ | ⟨hi, e1, q1⟩
    · cases q
    rcases at_ e2 with ⟨_, q⟩ | ⟨hk, e2, q2⟩
    · rw [q] at h3
      rcases h3 with ⟨_, _, z⟩ | ⟨_, z⟩ <;> cases z
    rw [q1, q2] at h4
    exact S.dis i k o ds c e1 e2 h3 h4
  · rcases at_ e with ⟨_, q⟩ | ⟨_, e, _⟩
    · cases q
    · obtain ⟨h1, o, ds, h2⟩ := S.back k i e
      refine ⟨h1, o, ds, ?_⟩
      rw [List.getElem?_set_ne (fun z => by rw [z] at h; rw [h] at h2; cases h2)]
      exact h2
theorem set_app {α : Type} {xs ys : List α} {i : Nat} {z : α} (h : i < xs.length) : (xs ++ ys).set i z = xs.set i z ++ ys := List.set_append_left _ _ h
theorem SR.fillA (hl : σ.length = δ.length) (S : SR K B H (σ ++ gs) (δ ++ γ)) (h : δ[j]? = some none) (hx : Stay K B H x d) : SR K B H (σ.set j (some x) ++ gs) (δ.set j (some (.dat d)) ++ γ) := by
  have hj : j < δ.length := (List.getElem?_eq_some_iff.mp h).1
  have z := S.fill (getq_append_left' h) hx
  rw [set_app (by omega), set_app hj] at z
  exact z
/-! ### what a target does -/
def TgX (K : PySem.W.Frag) (g : TG) (js : List Nat) (δ : Ab) (d : PyData) (δ' : Ab) : Prop := ∀ (B H : Hp) (σ gs : L2.St) (γ : Ab) (x : V) (Q : L2.St → Hp → Prop), σ.length = δ.length → SR K B H (σ ++ gs) (δ ++ γ) → Stay K B H x d →
  (∀ σ', σ'.length = δ'.length → (∀ i : Nat, i ∉ js → σ'[i]? = σ[i]?) → SR K B H (σ' ++ gs) (δ' ++ γ) → Q σ' H) → g x σ H Q
theorem tgx_name (h : δ[j]? = some none) : TgX K (gName j) [j] δ d (δ.set j (some (.dat d))) := fun B H σ gs γ x Q hl S hx k =>
  k _ (by rw [List.length_set, List.length_set, hl]) (fun i hi => List.getElem?_set_ne fun z => hi (by rw [z]; exact List.mem_singleton.mpr rfl)) (S.fillA hl h hx)
def gNames : List Nat → TGs
  | [] => gNil
  | j :: js => gCons (gName j) (gNames js)
def setAll : Ab → List Nat → List PyData → Ab
  | δ, j :: js, d :: ds => setAll (δ.set j (some (.dat d))) js ds
  | δ, _, _ => δ
def Free : Ab → List Nat → List PyData → Prop
  | δ, j :: js, d :: ds => δ[j]? = some none ∧ Free (δ.set j (some (.dat d))) js ds
  | _, [], [] => True
  | _, _, _ => False
theorem Free.ups : ∀ {js : List Nat} {ds : List PyData} {δ : Ab}, Free δ js ds → Ups δ (setAll δ js ds)
  | [], [], _, _ => .refl
  | j :: js, d :: ds, δ, h => (Ups.set h.1).trans (Free.ups (js := js) h.2)
  | [], _ :: _, _, h => h.elim
  | _ :: _, [], _, h => h.elim
theorem tgx_names {vs : List V} : ∀ {js : List Nat} {ds : List PyData} {δ : Ab} {σ : L2.St} {vs : List V} {Q : L2.St → Hp → Prop}, Free δ js ds → σ.length = δ.length → SR K B H (σ ++ gs) (δ ++ γ) → vs.length = ds.length → (∀ (i : Nat) v d, vs[i]? = some v → ds[i]? = some d → Stay K B H v d) →
    (∀ σ', σ'.length = (setAll δ js ds).length → (∀ i : Nat, i ∉ js → σ'[i]? = σ[i]?) → SR K B H (σ' ++ gs) (setAll δ js ds ++ γ) → Q σ' H) → gNames js vs σ H Q
  | [], [], δ, σ, vs, Q, _, hl, S, hlen, _, k => ⟨List.length_eq_zero_iff.mp hlen, k σ hl (fun _ _ => rfl) S⟩
  | j :: js, d :: ds, δ, σ, [], Q, _, hl, S, hlen, _, k => by simp at hlen
  | j :: js, d :: ds, δ, σ, v :: vs, Q, hf, hl, S, hlen, hx, k => ⟨v, vs, rfl, tgx_names (js := js) (ds := ds) (vs := vs) hf.2 (by rw [List.length_set, List.length_set, hl]) (S.fillA hl hf.1 (hx 0 v d rfl rfl)) (by simpa using hlen)
      (fun i v' d' h1 h2 => hx (i + 1) v' d' (by simpa using h1) (by simpa using h2)) fun σ' h1 h2 h3 => k σ' h1 (fun i hi => by
        rw [h2 i fun z => hi (List.mem_cons_of_mem _ z), List.getElem?_set_ne fun z => hi (by rw [z]; exact List.mem_cons_self)]) h3⟩
  | [], _ :: _, _, _, _, _, h, _, _, _, _, _ => h.elim
  | _ :: _, [], _, _, _, _, h, _, _, _, _, _ => h.elim
theorem tgx_tup {n : Nat} {js : List Nat} {ds : List PyData} (hf : Free δ js ds) (hn : ds.length = n) : TgX K (gTup K n (gNames js)) js δ (.tuple ds) (setAll δ js ds) := fun B H σ gs γ x Q hl S hx k => by
  have fin : ∀ {p : Addr} {vs : List V}, x = .ref p → SqT K H p vs → DpAll K H vs ds → (∀ (i : Nat) v d, vs[i]? = some v → ds[i]? = some d → Stay K B H v d) → gTup K n (gNames js) x σ H Q := fun {p vs} e h1 h2 h3 =>
    ⟨p, vs, e, h1, by rw [dps_len h2, hn], tgx_names (vs := vs) hf hl S (dps_len h2) h3 k⟩
  rcases hx with hx | ⟨n1, hx⟩
  · cases hx with
    | tup h1 h2 => exact fin rfl (sqt_same S.base h1) (dps_same S.base _ _ h2) (items_base S.base h2).2
  · cases hx with
    | tup h1 h2 => exact fin rfl h1 h2 (items_no (B := B) n1 h2).2
end

/-! ### comprehensions -/
section
variable {X : Cx} {δ δ1 δ2 δ3 : Ab} {it a b c : AV} {elt tg iter : Expr} {ifs : List Expr} {pos p1 apos : Pos} {ds : List PyData} {scope : Scope} {own : List (Str × Nat)} {g : TG} {js : List Nat}
theorem wipe_in {σ : L2.St} {i : Nat} : ∀ {vs : List Nat}, i ∈ vs → i < σ.length → (wipe σ vs)[i]? = some none
  | [], h, _ => absurd h (by simp)
  | v :: vs, h, hl => by
    unfold wipe
    by_cases hi : v = i
    · subst hi
      exact List.getElem?_set_self (by rw [wipe_length]; exact hl)
    · rw [List.getElem?_set_ne hi]
      exact wipe_in ((List.mem_cons.mp h).resolve_left (Ne.symm hi)) hl
theorem wipe_eq {σ σ' : L2.St} {vs : List Nat} (hl : σ'.length = σ.length) (h : ∀ i : Nat, i ∉ vs → σ'[i]? = (wipe σ vs)[i]?) : wipe σ' vs = wipe σ vs := by
  apply List.ext_getElem?
  intro i
  by_cases hi : i ∈ vs
  · by_cases hlt : i < σ.length
    · rw [wipe_in hi (by omega), wipe_in hi hlt]
    · rw [List.getElem?_eq_none (by rw [wipe_length]; omega), List.getElem?_eq_none (by rw [wipe_length]; omega)]
  · rw [wipe_out hi]
    exact h i hi
def unT (K : PySem.W.Frag) (ds : List PyData) (ou : List (Option PyData)) (δd : Nat → PyData → Ab) : TT := fun σ H Q => ∃ i d o, ds[i]? = some d ∧ ou[i]? = some o ∧ tT K (δd i d) o.isSome (δd i d) σ H Q
def unE (K : PySem.W.Frag) (ds : List PyData) (ou : List (Option PyData)) (δd : Nat → PyData → Ab) : TE := fun σ H Q => ∃ i d y, ds[i]? = some d ∧ ou[i]? = some (some y) ∧ tE K (δd i d) (.dat y) (δd i d) σ H Q
/-- what the first i items give -/
def resO (ou : List (Option PyData)) (i : Nat) : List PyData := (ou.take i).filterMap id
theorem resO_succ {ou : List (Option PyData)} {i : Nat} {o : Option PyData} (h : ou[i]? = some o) : resO ou (i + 1) = resO ou i ++ o.toList := by
  unfold resO
  rw [List.take_add_one, h, List.filterMap_append]
  cases o <;> rfl
theorem resO_len (ou : List (Option PyData)) (i : Nat) : (resO ou i).length ≤ ou.length := by
  unfold resO
  exact Nat.le_trans (List.length_filterMap_le _ _) (by rw [List.length_take]; omega)
/-- one turn of a comprehension, whatever it walks -/
theorem lc_turn {K : PySem.W.Frag} {B : Hp} {σ gs : L2.St} {γ : Ab} {tt : TT} {ou : List (Option PyData)} {o : Option PyData} {δd : Nat → PyData → Ab} {av D : Addr} {i : Nat} {d : PyData} {x : V} {H : Hp} {res : List PyData} {Nx : Hp → Prop}
    (hl : σ.length = δ1.length) (hjn : ∀ j ∈ js, δ1[j]? = some none) (hd : ds[i]? = some d) (ho : ou[i]? = some o) (hgx : TgX K g js δ1 d (δd i d)) (hup : Ups δ1 (δd i d)) (htx : ∀ σ H Q, tT K (δd i d) o.isSome (δd i d) σ H Q → tt σ H Q) (hf : ∀ y, o = some y → noL y = true) (hres : res.length < 100000)
    (S : SR K B H (wipe σ js ++ (gs ++ [some (V.ref av)] ++ [some (V.ref D)])) (δ1 ++ (γ ++ [some it] ++ [some (.lst none res)]))) (hx : Stay K B H x d)
    (hnx : ∀ H', SR K B H' (wipe σ js ++ (gs ++ [some (V.ref av)] ++ [some (V.ref D)])) (δ1 ++ (γ ++ [some it] ++ [some (.lst none (res ++ o.toList))])) → Nx H') :
    g x (wipe σ js) H fun σ2 H2 => wipe σ2 js = wipe σ js ∧ tt σ2 H2 fun b H3 => if b = true then unE K ds ou δd σ2 H3 fun y H4 => ∃ acc, H4 D = some (.lst acc) ∧ acc.length < sizeLine ∧ Nx (upd H4 D (.lst (acc ++ [y]))) else Nx H3 := by
  refine hgx B H (wipe σ js) _ _ x _ (by rw [wipe_length]; exact hl) S hx fun σ' hl' hout S' => ?_
  have lw : (wipe σ js).length = δ1.length := by rw [wipe_length]; exact hl
  have lup := hup.len
  refine ⟨wipe_eq (by rw [hl', ← lup, hl]) hout, htx _ _ _ ⟨B, _, _, hl', S', fun H3 S3 => ?_⟩⟩
  have back : ∀ {H5 : Hp} {ρ : Ab}, SR K B H5 (σ' ++ (gs ++ [some (V.ref av)] ++ [some (V.ref D)])) (δd i d ++ ρ) → SR K B H5 (wipe σ js ++ (gs ++ [some (V.ref av)] ++ [some (V.ref D)])) (δ1 ++ ρ) := fun {H5 ρ} S5 =>
    S5.lower hl' lw hup fun i a e => (hout i fun z => by rw [hjn i z] at e; cases e).symm
  cases o with
  | none =>
    refine iteF (hnx _ ?_)
    rw [Option.toList_none, List.append_nil]
    exact back S3
  | some y0 =>
    refine iteT ⟨i, d, y0, hd, ho, B, _, _, hl', S3, fun y H4 S4 => ?_⟩
    have P4 := S4.pop
    have hix : ((δd i d) ++ (γ ++ [some it] ++ [some (.lst none res)]))[((δd i d) ++ (γ ++ [some it])).length]? = some (some (.lst none res)) := by
      rw [← List.append_assoc, List.getElem?_append_right (Nat.le_refl _), Nat.sub_self]
      rfl
    have hlx : (σ' ++ (gs ++ [some (V.ref av)] ++ [some (V.ref D)]))[((δd i d) ++ (γ ++ [some it])).length]? = some (some (V.ref D)) := by
      have z := P4.len
      have z2 : (σ' ++ (gs ++ [some (V.ref av)])).length = ((δd i d) ++ (γ ++ [some it])).length := by
        simp only [List.length_append, List.length_singleton] at z ⊢
        omega
      rw [← List.append_assoc, ← z2, List.getElem?_append_right (Nat.le_refl _), Nat.sub_self]
      rfl
    obtain ⟨u, h1, q, eq, _, _, hn, acc, hacc, hdp⟩ := P4.rel _ _ hix
    rw [hlx] at h1
    cases h1
    cases eq
    have hy : Dp K H4 y y0 := S4.dp (a := .dat y0) S4.last rfl
    refine ⟨acc, hacc, by rw [dps_len hdp]; exact sz_lt hres, hnx _ ?_⟩
    have M := P4.mut (ds' := res ++ [y0]) (vs' := acc ++ [y]) hix hlx (noLs_app hn (by rw [noLs, hf y0 rfl]; rfl)) (dps_app hdp (.cons hy .nil))
    have e : ((δd i d) ++ (γ ++ [some it] ++ [some (AV.lst none res)])).set ((δd i d) ++ (γ ++ [some it])).length (some (AV.lst none (res ++ [y0]))) = (δd i d) ++ (γ ++ [some it] ++ [some (AV.lst none (res ++ [y0]))]) := by
      rw [← List.append_assoc, List.set_append_right _ _ (Nat.le_refl _), Nat.sub_self, List.append_assoc]
      rfl
    rw [e] at M
    exact back M
theorem wipe_sr {K : PySem.W.Frag} {B H : Hp} {σ r : L2.St} {δ ρ : Ab} (hl : σ.length = δ.length) (hjn : ∀ j ∈ js, δ[j]? = some none) (S : SR K B H (σ ++ r) (δ ++ ρ)) : SR K B H (wipe σ js ++ r) (δ ++ ρ) :=
  S.lower hl (by rw [wipe_length]; exact hl) .refl fun i a e => wipe_out fun z => by rw [hjn i z] at e; cases e
theorem unwipe_sr {K : PySem.W.Frag} {B H : Hp} {σ r : L2.St} {δ ρ : Ab} (hl : σ.length = δ.length) (hjn : ∀ j ∈ js, δ[j]? = some none) (S : SR K B H (wipe σ js ++ r) (δ ++ ρ)) : SR K B H (σ ++ r) (δ ++ ρ) :=
  S.lower (by rw [wipe_length]; exact hl) hl .refl fun i a e => (wipe_out fun z => by rw [hjn i z] at e; cases e).symm
/-- the same for a list and a tuple -/
theorem lc_coreL {K : PySem.W.Frag} {B : Hp} {σ gs : L2.St} {γ : Ab} {tt : TT} {ou : List (Option PyData)} {δd : Nat → PyData → Ab} {v : V} {H1 : Hp} {Q : VK}
    (hit : view δ1 it = some (.list ds)) (hl : σ.length = δ1.length) (hjn : ∀ j ∈ js, δ1[j]? = some none) (hol : ou.length = ds.length) (hgx : ∀ (i : Nat) d, ds[i]? = some d → TgX K g js δ1 d (δd i d)) (hup : ∀ (i : Nat) d, ds[i]? = some d → Ups δ1 (δd i d)) (htx : ∀ (i : Nat) d o, ds[i]? = some d → ou[i]? = some o → ∀ σ H Q, tT K (δd i d) o.isSome (δd i d) σ H Q → tt σ H Q) (hf : ∀ (i : Nat) d y, ds[i]? = some d → ou[i]? = some (some y) → noL y = true)
    (hlen : ds.length < 100000) (S1 : SR K B H1 (σ ++ gs ++ [some v]) (δ1 ++ γ ++ [some it])) (kk : ∀ z H2, SR K B H2 (σ ++ gs ++ [some z]) (δ1 ++ γ ++ [some (.lst none (ou.filterMap id))]) → Q z H2) :
    ∃ a, v = V.ref a ∧ (∃ xs, SqL K H1 a xs) ∧ ∀ D, H1 D = none → ∃ W : Nat → Nat → Hp → Prop, (∃ m, W 0 m (upd H1 D (.lst []))) ∧ ∀ i m H, W i m H →
      ((Itl K a).stop i H ∧ Q (.ref D) H) ∨ ((Itl K a).go i H ∧ ∃ Nx : Hp → Prop, (∀ H', Nx H' → ∃ m', m' < m ∧ W (i + 1) m' H') ∧ ∀ x H', (Itl K a).yld i H x H' → g x (wipe σ js) H' fun σ2 H2 => wipe σ2 js = wipe σ js ∧ tt σ2 H2 fun b H3 =>
        if b = true then unE K ds ou δd σ2 H3 fun y H4 => ∃ acc, H4 D = some (.lst acc) ∧ acc.length < sizeLine ∧ Nx (upd H4 D (.lst (acc ++ [y]))) else Nx H3) := by
  obtain ⟨a, xs, rfl, hq, hi⟩ := S1.list S1.last (view_app (view_app hit))
  refine ⟨a, rfl, ⟨xs, hq⟩, fun D hD => ?_⟩
  -- the list's items at any turn
  have at_ : ∀ {i : Nat} {H : Hp} {res : List PyData}, SR K B H (wipe σ js ++ (gs ++ [some (V.ref a)] ++ [some (V.ref D)])) (δ1 ++ (γ ++ [some it] ++ [some (.lst none res)])) → ∃ ws, SqL K H a ws ∧ Items K B H ws ds := fun {i H res} S => by
    have S2 : SR K B H (wipe σ js ++ gs ++ [some (V.ref a)]) (δ1 ++ γ ++ [some it]) := by
      have z : SR K B H (wipe σ js ++ gs ++ [some (V.ref a)] ++ [some (V.ref D)]) (δ1 ++ γ ++ [some it] ++ [some (.lst none res)]) := by simpa using S
      exact z.pop
    obtain ⟨a', ws, e, h1, h2⟩ := S2.list S2.last (view_app (view_app hit))
    cases e
    exact ⟨ws, h1, h2⟩
  refine ⟨fun i m H => m = ds.length - i ∧ i ≤ ds.length ∧ SR K B H (wipe σ js ++ (gs ++ [some (V.ref a)] ++ [some (V.ref D)])) (δ1 ++ (γ ++ [some it] ++ [some (.lst none (resO ou i))])), ⟨ds.length, rfl, Nat.zero_le _, ?_⟩, ?_⟩
  · have N := S1.pushN (same_new (o := .lst []) hD) (o := none) (ds := []) (fun _ z => by cases z) hD ⟨rfl, [], upd_same, .nil⟩
    have N2 : SR K B (upd H1 D (.lst [])) (σ ++ (gs ++ [some (V.ref a)] ++ [some (V.ref D)])) (δ1 ++ (γ ++ [some it] ++ [some (.lst none [])])) := by simpa using N
    exact wipe_sr hl hjn N2
  · rintro i m H ⟨rfl, hile, S⟩
    obtain ⟨ws, h1, h2⟩ := at_ (i := i) S
    have hwl := dps_len h2.1
    by_cases hlt : i < ds.length
    · refine .inr ⟨⟨ws, ws[i]'(by omega), h1, List.getElem?_eq_getElem (by omega)⟩, _, fun H' S' => ⟨ds.length - (i + 1), by omega, rfl, hlt, S'⟩, fun x H' hy => ?_⟩
      obtain ⟨rfl, hx⟩ := hy
      have hx := hx ws h1
      have hdi : ds[i]? = some ds[i] := List.getElem?_eq_getElem hlt
      have hoi : ou[i]? = some (ou[i]'(by omega)) := List.getElem?_eq_getElem (by omega)
      refine lc_turn (i := i) (d := ds[i]) hl hjn hdi hoi (hgx i _ hdi) (hup i _ hdi) (htx i _ _ hdi hoi) (fun y e => hf i _ y hdi (by rw [hoi, e])) (Nat.lt_of_le_of_lt (resO_len ou i) (by omega)) S (h2.2 i x _ hx hdi) fun H' S' => ?_
      rw [resO_succ hoi]
      exact S'
    · have e : i = ds.length := by omega
      subst e
      refine .inl ⟨⟨ws, h1, by omega⟩, kk _ _ ?_⟩
      have er : resO ou ds.length = ou.filterMap id := by
        unfold resO
        rw [← hol, List.take_length]
      rw [er] at S
      have S2 := unwipe_sr hl hjn S
      have S3 : SR K B H (σ ++ gs ++ [some (V.ref a)] ++ [some (V.ref D)]) (δ1 ++ γ ++ [some it] ++ [some (.lst none (ou.filterMap id))]) := by simpa using S2
      exact S3.drop1
theorem lc_coreT {K : PySem.W.Frag} {B : Hp} {σ gs : L2.St} {γ : Ab} {tt : TT} {ou : List (Option PyData)} {δd : Nat → PyData → Ab} {v : V} {H1 : Hp} {Q : VK}
    (hit : view δ1 it = some (.tuple ds)) (hl : σ.length = δ1.length) (hjn : ∀ j ∈ js, δ1[j]? = some none) (hol : ou.length = ds.length) (hgx : ∀ (i : Nat) d, ds[i]? = some d → TgX K g js δ1 d (δd i d)) (hup : ∀ (i : Nat) d, ds[i]? = some d → Ups δ1 (δd i d)) (htx : ∀ (i : Nat) d o, ds[i]? = some d → ou[i]? = some o → ∀ σ H Q, tT K (δd i d) o.isSome (δd i d) σ H Q → tt σ H Q) (hf : ∀ (i : Nat) d y, ds[i]? = some d → ou[i]? = some (some y) → noL y = true)
    (hlen : ds.length < 100000) (S1 : SR K B H1 (σ ++ gs ++ [some v]) (δ1 ++ γ ++ [some it])) (kk : ∀ z H2, SR K B H2 (σ ++ gs ++ [some z]) (δ1 ++ γ ++ [some (.lst none (ou.filterMap id))]) → Q z H2) :
    ∃ a, v = V.ref a ∧ (∃ xs, SqT K H1 a xs) ∧ ∀ D, H1 D = none → ∃ W : Nat → Nat → Hp → Prop, (∃ m, W 0 m (upd H1 D (.lst []))) ∧ ∀ i m H, W i m H →
      ((Itt K a).stop i H ∧ Q (.ref D) H) ∨ ((Itt K a).go i H ∧ ∃ Nx : Hp → Prop, (∀ H', Nx H' → ∃ m', m' < m ∧ W (i + 1) m' H') ∧ ∀ x H', (Itt K a).yld i H x H' → g x (wipe σ js) H' fun σ2 H2 => wipe σ2 js = wipe σ js ∧ tt σ2 H2 fun b H3 =>
        if b = true then unE K ds ou δd σ2 H3 fun y H4 => ∃ acc, H4 D = some (.lst acc) ∧ acc.length < sizeLine ∧ Nx (upd H4 D (.lst (acc ++ [y]))) else Nx H3) := by
  obtain ⟨a, xs, rfl, hq, hi⟩ := S1.tuple S1.last (view_app (view_app hit))
  refine ⟨a, rfl, ⟨xs, hq⟩, fun D hD => ?_⟩
  -- the list's items at any turn
  have at_ : ∀ {i : Nat} {H : Hp} {res : List PyData}, SR K B H (wipe σ js ++ (gs ++ [some (V.ref a)] ++ [some (V.ref D)])) (δ1 ++ (γ ++ [some it] ++ [some (.lst none res)])) → ∃ ws, SqT K H a ws ∧ Items K B H ws ds := fun {i H res} S => by
    have S2 : SR K B H (wipe σ js ++ gs ++ [some (V.ref a)]) (δ1 ++ γ ++ [some it]) := by
      have z : SR K B H (wipe σ js ++ gs ++ [some (V.ref a)] ++ [some (V.ref D)]) (δ1 ++ γ ++ [some it] ++ [some (.lst none res)]) := by simpa using S
      exact z.pop
    obtain ⟨a', ws, e, h1, h2⟩ := S2.tuple S2.last (view_app (view_app hit))
    cases e
    exact ⟨ws, h1, h2⟩
  refine ⟨fun i m H => m = ds.length - i ∧ i ≤ ds.length ∧ SR K B H (wipe σ js ++ (gs ++ [some (V.ref a)] ++ [some (V.ref D)])) (δ1 ++ (γ ++ [some it] ++ [some (.lst none (resO ou i))])), ⟨ds.length, rfl, Nat.zero_le _, ?_⟩, ?_⟩
  · have N := S1.pushN (same_new (o := .lst []) hD) (o := none) (ds := []) (fun _ z => by cases z) hD ⟨rfl, [], upd_same, .nil⟩
    have N2 : SR K B (upd H1 D (.lst [])) (σ ++ (gs ++ [some (V.ref a)] ++ [some (V.ref D)])) (δ1 ++ (γ ++ [some it] ++ [some (.lst none [])])) := by simpa using N
    exact wipe_sr hl hjn N2
  · rintro i m H ⟨rfl, hile, S⟩
    obtain ⟨ws, h1, h2⟩ := at_ (i := i) S
    have hwl := dps_len h2.1
    by_cases hlt : i < ds.length
    · refine .inr ⟨⟨ws, ws[i]'(by omega), h1, List.getElem?_eq_getElem (by omega)⟩, _, fun H' S' => ⟨ds.length - (i + 1), by omega, rfl, hlt, S'⟩, fun x H' hy => ?_⟩
      obtain ⟨rfl, hx⟩ := hy
      have hx := hx ws h1
      have hdi : ds[i]? = some ds[i] := List.getElem?_eq_getElem hlt
      have hoi : ou[i]? = some (ou[i]'(by omega)) := List.getElem?_eq_getElem (by omega)
      refine lc_turn (i := i) (d := ds[i]) hl hjn hdi hoi (hgx i _ hdi) (hup i _ hdi) (htx i _ _ hdi hoi) (fun y e => hf i _ y hdi (by rw [hoi, e])) (Nat.lt_of_le_of_lt (resO_len ou i) (by omega)) S (h2.2 i x _ hx hdi) fun H' S' => ?_
      rw [resO_succ hoi]
      exact S'
    · have e : i = ds.length := by omega
      subst e
      refine .inl ⟨⟨ws, h1, by omega⟩, kk _ _ ?_⟩
      have er : resO ou ds.length = ou.filterMap id := by
        unfold resO
        rw [← hol, List.take_length]
      rw [er] at S
      have S2 := unwipe_sr hl hjn S
      have S3 : SR K B H (σ ++ gs ++ [some (V.ref a)] ++ [some (V.ref D)]) (δ1 ++ γ ++ [some it] ++ [some (.lst none (ou.filterMap id))]) := by simpa using S2
      exact S3.drop1
/-- a comprehension: its value, and a name set to it on its own line -/
structure EL (X : Cx) (ee : Expr) (δ : Ab) (a : AV) (δ' : Ab) : Prop where
  e : E X ee δ a δ'
  s : ∀ (i : Nat) (y : Str) (py spos : Pos), X.N[i]? = some y → X.env.scope.names.lookup y = some .local → swapsWith ee (some (.Name y py)) spos.line X.env = pure true → PS X (.Assign [.Name y py] ee spos) (tAsg (tE X.K δ a δ') (gName i))
theorem EL.cast {X : Cx} {e : Expr} {δ δ' : Ab} {a a' : AV} (h : EL X e δ a δ') (q : a = a') : EL X e δ a' δ' := q ▸ h
theorem l_lcL (ou : List (Option PyData)) {δd : Nat → PyData → Ab} {tt : TT} (hc : X.calm = true) (hN : X.N.Nodup) (hi : E X iter δ it δ1) (hit : view δ1 it = some (.list ds)) (ok : BlkOk X.N X.env.scope scope own) (hjs : own.map (·.2) = js) (hjn : ∀ j ∈ js, δ1[j]? = some none)
    (hg : ∀ (s : Shared) (H : Hp) (C : Addr) (cl : List (Str × Addr)) (fp : List Addr), PG (X.blk s H scope (compEnvC scope cl C X.env) fp) tg g) (hol : ou.length = ds.length) (hgx : ∀ (i : Nat) d, ds[i]? = some d → TgX X.K g js δ1 d (δd i d)) (hup : ∀ (i : Nat) d, ds[i]? = some d → Ups δ1 (δd i d))
    (ht : ∀ (s : Shared) (H : Hp) (C : Addr) (cl : List (Str × Addr)) (fp : List Addr), PTs (X.blk s H scope (compEnvC scope cl C X.env) fp) ifs tt) (htx : ∀ (i : Nat) d o, ds[i]? = some d → ou[i]? = some o → ∀ σ H Q, tT X.K (δd i d) o.isSome (δd i d) σ H Q → tt σ H Q)
    (he : ∀ (i : Nat) d y, ds[i]? = some d → ou[i]? = some (some y) → ∀ (s : Shared) (H : Hp) (C : Addr) (cl : List (Str × Addr)) (fp : List Addr), E (X.blk s H scope (compEnvC scope cl C X.env) fp) elt (δd i d) (.dat y) (δd i d)) (hf : ∀ (i : Nat) d y, ds[i]? = some d → ou[i]? = some (some y) → noL y = true) (hlen : ds.length < 100000)
    (hs : ∀ x, foldedSetIterable iter X.env x = pure x := by intro _; rfl) : EL X (.ListComp elt [⟨tg, iter, ifs, 0⟩] scope pos) δ (.lst none (ou.filterMap id)) δ1 := by
  subst hjs
  have hE : ∀ (s : Shared) (H : Hp) (C : Addr) (cl : List (Str × Addr)) (fp : List Addr), PE (X.blk s H scope (compEnvC scope cl C X.env) fp) elt (unE X.K ds ou δd) := fun s H C cl fp => ⟨fun pins st σ H Q I ⟨i, d, y, hd, hp, q⟩ => (he i d y hd hp s _ C cl fp).run pins st σ H Q I q⟩
  have hm : ∀ σ H Q, tE X.K δ (.lst none (ou.filterMap id)) δ1 σ H Q → tLc (iList X.K (tE X.K δ it δ1)) g tt (unE X.K ds ou δd) (own.map (·.2)) σ H Q := fun σ H Q ⟨B, gs, γ, hl, S0, kk⟩ => ⟨B, gs, γ, hl, S0, fun v H1 S1 =>
    lc_coreL hit (SR.len3 hl S0 S1) hjn hol hgx hup htx hf hlen S1 kk⟩
  exact ⟨pe_of (pe_lc hc hN (pi_list hi) ok hg ht hE hs) hm, fun i y py spos hy hyl hsw => ps_of (ps_setLc hc hN hy hyl hsw (pi_list hi) ok hg ht hE hs) fun D σ H h => hm σ H _ h⟩
theorem l_lcT (ou : List (Option PyData)) {δd : Nat → PyData → Ab} {tt : TT} (hc : X.calm = true) (hN : X.N.Nodup) (hi : E X iter δ it δ1) (hit : view δ1 it = some (.tuple ds)) (ok : BlkOk X.N X.env.scope scope own) (hjs : own.map (·.2) = js) (hjn : ∀ j ∈ js, δ1[j]? = some none)
    (hg : ∀ (s : Shared) (H : Hp) (C : Addr) (cl : List (Str × Addr)) (fp : List Addr), PG (X.blk s H scope (compEnvC scope cl C X.env) fp) tg g) (hol : ou.length = ds.length) (hgx : ∀ (i : Nat) d, ds[i]? = some d → TgX X.K g js δ1 d (δd i d)) (hup : ∀ (i : Nat) d, ds[i]? = some d → Ups δ1 (δd i d))
    (ht : ∀ (s : Shared) (H : Hp) (C : Addr) (cl : List (Str × Addr)) (fp : List Addr), PTs (X.blk s H scope (compEnvC scope cl C X.env) fp) ifs tt) (htx : ∀ (i : Nat) d o, ds[i]? = some d → ou[i]? = some o → ∀ σ H Q, tT X.K (δd i d) o.isSome (δd i d) σ H Q → tt σ H Q)
    (he : ∀ (i : Nat) d y, ds[i]? = some d → ou[i]? = some (some y) → ∀ (s : Shared) (H : Hp) (C : Addr) (cl : List (Str × Addr)) (fp : List Addr), E (X.blk s H scope (compEnvC scope cl C X.env) fp) elt (δd i d) (.dat y) (δd i d)) (hf : ∀ (i : Nat) d y, ds[i]? = some d → ou[i]? = some (some y) → noL y = true) (hlen : ds.length < 100000)
    (hs : ∀ x, foldedSetIterable iter X.env x = pure x := by intro _; rfl) : EL X (.ListComp elt [⟨tg, iter, ifs, 0⟩] scope pos) δ (.lst none (ou.filterMap id)) δ1 := by
  subst hjs
  have hE : ∀ (s : Shared) (H : Hp) (C : Addr) (cl : List (Str × Addr)) (fp : List Addr), PE (X.blk s H scope (compEnvC scope cl C X.env) fp) elt (unE X.K ds ou δd) := fun s H C cl fp => ⟨fun pins st σ H Q I ⟨i, d, y, hd, hp, q⟩ => (he i d y hd hp s _ C cl fp).run pins st σ H Q I q⟩
  have hm : ∀ σ H Q, tE X.K δ (.lst none (ou.filterMap id)) δ1 σ H Q → tLc (iTup X.K (tE X.K δ it δ1)) g tt (unE X.K ds ou δd) (own.map (·.2)) σ H Q := fun σ H Q ⟨B, gs, γ, hl, S0, kk⟩ => ⟨B, gs, γ, hl, S0, fun v H1 S1 =>
    lc_coreT hit (SR.len3 hl S0 S1) hjn hol hgx hup htx hf hlen S1 kk⟩
  exact ⟨pe_of (pe_lc hc hN (pi_tup hi) ok hg ht hE hs) hm, fun i y py spos hy hyl hsw => ps_of (ps_setLc hc hN hy hyl hsw (pi_tup hi) ok hg ht hE hs) fun D σ H h => hm σ H _ h⟩
end
end G
end FW8
section FW9
set_option Elab.async false
set_option linter.all false
set_option maxRecDepth 100000
set_option maxHeartbeats 4000000
namespace G
open PySem L2
section
variable {K : PySem.W.Frag} {B H H' : Hp} {l l' r : L2.St} {δ δ0 δ' m m' ρ : Ab} {v x : V} {a : AV} {ds : List PyData}
/-- an owned list that nobody will write any more -/
theorem SR.freeze {o : Option Addr} (S : SR K B H (l ++ [some v]) (m ++ [some (.lst o ds)])) : SR K B H (l ++ [some v]) (m ++ [some (.fz ds)]) := by
  have hl := S.pop.len
  have endm : (m ++ [some (AV.lst o ds)])[m.length]? = some (some (.lst o ds)) := by rw [List.getElem?_append_right (Nat.le_refl _), Nat.sub_self]; rfl
  have endl : (l ++ [some v])[m.length]? = some (some v) := by rw [← hl, List.getElem?_append_right (Nat.le_refl _), Nat.sub_self]; rfl
  obtain ⟨p, e, _, hb, hL⟩ := S.last
  refine S.pop.push (a := .fz ds) ⟨p, e, hb, hL⟩ (fun o ds e => by cases e) (fun ds' e i o' ds2 hi hv => ?_)
  have hlt := (List.getElem?_eq_some_iff.mp hi).1
  have z := S.dis m.length i o ds _ endm (getq_append_left' hi) (.inl ⟨o', ds2, rfl⟩) (by rw [endl, List.getElem?_append_left (by omega), hv])
  omega
end
section
variable {X : Cx} {δ δ0 δ1 δ2 δ3 δ' : Ab} {it a b c : AV} {e e1 e2 e3 iter tg : Expr} {pos pos' p p1 p2 px py pt apos cpos : Pos} {ds : List PyData} {o out : Out} {st : Stmt} {rest sts body s1 s2 : List Stmt} {x y f : Str} {i j : Nat} {d : PyData}
theorem lt_of_blt {i n : Nat} (h : Nat.blt i n = true) : i < n := Nat.le_of_ble_eq_true h
theorem S.is {o2 : Out} (h : S X st δ out) (e : out = o2) : S X st δ o2 := e ▸ h
theorem Ss.is {o2 : Out} (h : Ss X sts δ out) (e : out = o2) : Ss X sts δ o2 := e ▸ h
theorem ss_nil : Ss X [] δ (.nx δ) := pss_of pss_nil fun D σ H ⟨B, gs, γ, hl, hf, hg, S, k⟩ => k σ H hl hf S
theorem ss_one (h : S X st δ out) : Ss X [st] δ out := pss_one h
theorem ss_cons (h1 : S X st δ (.nx δ1)) (h2 : Ss X rest δ1 out) : Ss X (st :: rest) δ out := pss_of (pss_cons h1 h2) fun D σ H ⟨B, gs, γ, hl, hf, hg, S, k⟩ => ⟨B, gs, γ, hl, hf, hg, S, fun σ' H' hl' hf' S' => ⟨B, gs, γ, hl', hf', hg, S', k⟩⟩
/-- what follows is not asked -/
theorem ss_ret (h1 : S X st δ (.ret a δ1)) : Ss X (st :: rest) δ (.ret a δ1) := pss_of (pss_cons h1 pss_no) fun D σ H ⟨B, gs, γ, hl, hf, hg, S, k⟩ => ⟨B, gs, γ, hl, hf, hg, S, k⟩
theorem ss_le (h : Ss X sts δ (.nx δ1)) (hl : Le δ2 δ1) : Ss X sts δ (.nx δ2) := pss_of h fun D σ H ⟨B, gs, γ, hlen, hf, hg, S, k⟩ => ⟨B, gs, γ, hlen, hf, hg, S, fun σ' H' hl' hf' S' => k σ' H' (hl'.trans hl.len.symm) (hl.slFree hf') (S'.le hl.app (slApp hf' hg))⟩
theorem s_le (h : S X st δ (.nx δ1)) (hl : Le δ2 δ1) : S X st δ (.nx δ2) := ps_of h fun D σ H ⟨B, gs, γ, hlen, hf, hg, S, k⟩ => ⟨B, gs, γ, hlen, hf, hg, S, fun σ' H' hl' hf' S' => k σ' H' (hl'.trans hl.len.symm) (hl.slFree hf') (S'.le hl.app (slApp hf' hg))⟩
theorem SR.setA {K : PySem.W.Frag} {B H : Hp} {σ gs : L2.St} {δ γ : Ab} {v : V} (hl : σ.length = δ.length) (S : SR K B H (σ ++ gs ++ [some v]) (δ ++ γ ++ [some a])) (hs : slFree δ = true) (hg : frOk γ = true) (ha : ∀ j, a ≠ .sl j) (hi : i < δ.length) : SR K B H (σ.set i (some v) ++ gs) (δ.set i (some a) ++ γ) := by
  have z := S.set (slApp hs hg) ha i
  rw [set_app (by omega), set_app hi] at z
  exact z
/-- what may be stored -/
def AV.store : AV → Bool
  | .sl _ => false
  | _ => true
theorem AV.store_ne (h : a.store = true) : ∀ j, a ≠ .sl j := fun j e => by rw [e] at h; cases h
/-- name = e -/
theorem s_set (i : Nat) (hN : X.N.Nodup) (he : E X e δ a δ1) (hsf : slFree δ1 = true := by rfl) (hst : a.store = true := by rfl) (hi' : Nat.blt i δ1.length = true := by rfl) (hx : X.N[i]? = some x := by rfl) (hL : Loc X.env.scope x := by first | exact .inl rfl | exact .inr rfl) (hs : swapsWith e (some (.Name x pos')) pos.line X.env = pure false := by rfl) (hf : X.fn x = true ∨ X.env.scope.names.lookup x = some .local := by first | exact .inl rfl | exact .inr rfl | assumption) :
    S X (.Assign [.Name x pos'] e pos) δ (.nx (δ1.set i (some a))) :=
  have hi : i < δ1.length := lt_of_blt hi'
  ps_of (ps_set hN hx hL he hs hf) fun D σ H ⟨B, gs, γ, hl, hsf0, hg, S, k⟩ => ⟨B, gs, γ, hl, S, fun v H1 S1 =>
    k _ _ (by rw [List.length_set, List.length_set]; exact SR.len3 hl S S1) (slFree_set hsf fun j e => AV.store_ne hst j (Option.some.inj e)) (S1.setA (SR.len3 hl S S1) hsf hg (AV.store_ne hst) hi)⟩
/-- name = a new list that nobody will write -/
theorem s_setLc (i : Nat) (hN : X.N.Nodup) (he : EL X e δ a δ1) (hsf : slFree δ1 = true := by rfl) (hst : a.store = true := by rfl) (hi' : Nat.blt i δ1.length = true := by rfl) (hx : X.N[i]? = some x := by rfl) (hL : X.env.scope.names.lookup x = some .local := by rfl) (hs : swapsWith e (some (.Name x pos')) pos.line X.env = pure true := by rfl) :
    S X (.Assign [.Name x pos'] e pos) δ (.nx (δ1.set i (some a))) :=
  have hi : i < δ1.length := lt_of_blt hi'
  ps_of (he.s i x pos' pos hx hL hs) fun D σ H ⟨B, gs, γ, hl, hsf0, hg, S, k⟩ => ⟨B, gs, γ, hl, S, fun v H1 S1 =>
    k _ _ (by rw [List.length_set, List.length_set]; exact SR.len3 hl S S1) (slFree_set hsf fun j e => AV.store_ne hst j (Option.some.inj e)) (S1.setA (SR.len3 hl S S1) hsf hg (AV.store_ne hst) hi)⟩
theorem s_setFz (i : Nat) {oo : Option Addr} (hN : X.N.Nodup) (he : E X e δ (.lst oo ds) δ1) (hsf : slFree δ1 = true := by rfl) (hi : Nat.blt i δ1.length = true := by rfl) (hx : X.N[i]? = some x := by rfl) (hL : Loc X.env.scope x := by first | exact .inl rfl | exact .inr rfl) (hs : swapsWith e (some (.Name x pos')) pos.line X.env = pure false := by rfl) (hf : X.fn x = true ∨ X.env.scope.names.lookup x = some .local := by first | exact .inl rfl | exact .inr rfl | assumption) :
    S X (.Assign [.Name x pos'] e pos) δ (.nx (δ1.set i (some (.fz ds)))) :=
  s_set i hN (pe_of he fun σ H Q ⟨B, gs, γ, hl, S, k⟩ => ⟨B, gs, γ, hl, S, fun v H2 S2 => k v H2 S2.freeze⟩) hsf rfl hi hx hL hs hf
theorem s_ret (he : E X e δ a δ1) : S X (.Return (some e) pos) δ (.ret a δ1) := ps_of (ps_ret he) fun D σ H ⟨B, gs, γ, hl, _, _, S, k⟩ => ⟨B, gs, γ, hl, S, fun v H1 S1 => k σ v H1 (SR.len3 hl S S1) S1⟩
theorem s_ifT {t2 : TS} (h : T X e δ true δ1) (h1 : Ss X s1 δ1 out) (h2 : PSs X s2 t2) (hf : slFree δ1 = true := by rfl) : S X (.If e s1 s2 pos) δ out :=
  ps_of (ps_if h h1 h2) fun D σ H ⟨B, gs, γ, hl, _, hg, S, k⟩ => ⟨B, gs, γ, hl, S, fun H1 S1 => iteT ⟨B, gs, γ, SR.len2 hl S S1, hf, hg, S1, k⟩⟩
theorem s_ifF {t1 : TS} (h : T X e δ false δ1) (h1 : PSs X s1 t1) (h2 : Ss X s2 δ1 out) (hf : slFree δ1 = true := by rfl) : S X (.If e s1 s2 pos) δ out :=
  ps_of (ps_if h h1 h2) fun D σ H ⟨B, gs, γ, hl, _, hg, S, k⟩ => ⟨B, gs, γ, hl, S, fun H1 S1 => iteF ⟨B, gs, γ, SR.len2 hl S S1, hf, hg, S1, k⟩⟩
theorem s_if {b0 : Bool} (h : T X e δ b0 δ1) (h1 : b0 = true → Ss X s1 δ1 out) (h2 : b0 = false → Ss X s2 δ1 out) (hf : slFree δ1 = true := by rfl) : S X (.If e s1 s2 pos) δ out := by
  cases b0 with
  | true => exact s_ifT h (h1 rfl) pss_no hf
  | false => exact s_ifF h pss_no (h2 rfl) hf
theorem s_expr (he : E X e δ a δ1) (hf : slFree δ1 = true := by rfl) (hs : swapsWith e none pos.line X.env = pure false := by rfl) : S X (.Expr e pos) δ (.nx δ1) :=
  ps_of (ps_expr he hs) fun D σ H ⟨B, gs, γ, hl, _, hg, S, k⟩ => ⟨B, gs, γ, hl, S, fun v H1 S1 => k σ H1 (SR.len3 hl S S1) hf S1.pop⟩
theorem slFree_one (h : a.store = true) : slFree [some a] = true := by
  cases a <;> first | rfl | cases h
/-- the last ghost but some -/
theorem SR.set2 {K : PySem.W.Frag} {B H : Hp} {l : L2.St} {m : Ab} {v w : V} (S : SR K B H (l ++ [some v] ++ [some w]) (m ++ [some a] ++ [some b])) (hs : slFree m = true) (ha : a.store = true) (hb : b.store = true) (hj : j < m.length) : SR K B H (l.set j (some w) ++ [some v]) (m.set j (some b) ++ [some a]) := by
  have hl := S.pop.pop.len
  have z := S.set (by rw [slFree_app, hs, slFree_one ha]; rfl) (AV.store_ne hb) j
  rw [set_app (by omega), set_app hj] at z
  exact z
/-- a, b = e1, e2 -/
theorem s_par (i j : Nat) (hN : X.N.Nodup) (ha : A X [e1, e2] δ [a, b] δ1) (hsf : slFree δ1 = true := by rfl) (h1 : a.store = true := by rfl) (h2 : b.store = true := by rfl) (hi0 : Nat.blt i δ1.length = true := by rfl) (hj0 : Nat.blt j δ1.length = true := by rfl) (hi : X.N[i]? = some x := by rfl) (hj : X.N[j]? = some y := by rfl) (hij : i ≠ j := by decide) (hx : X.env.scope.names.lookup x = some .local := by rfl) (hy : X.env.scope.names.lookup y = some .local := by rfl) (hc : X.calm = true := by rfl) {kt k2 pt2}
    (hw : swappedStores [.Tuple [.Name x px, .Name y py] kt pt] (.Tuple [e1, e2] k2 pt2) X.env = pure (some [x, y]) := by rfl)
    (hs : swapsWithSole [.Tuple [.Name x px, .Name y py] kt pt] (.Tuple [e1, e2] k2 pt2) pos.line X.env = pure false := by rfl) :
    S X (.Assign [.Tuple [.Name x px, .Name y py] kt pt] (.Tuple [e1, e2] k2 pt2) pos) δ (.nx ((δ1.set i (some a)).set j (some b))) :=
  have hi' : i < δ1.length := lt_of_blt hi0
  have hj' : j < δ1.length := lt_of_blt hj0
  ps_of (ps_par hc hN hi hj hij hx hy ha hw hs) fun D σ H ⟨B, gs, γ, hl, _, hg, S, k⟩ => ⟨B, gs, γ, hl, S, fun vs H1 hlen S1 => by
    obtain ⟨v, w, ev, S2⟩ := two_of hlen S1
    have hl1 := SR.len3 hl S S2.pop
    refine ⟨v, w, ev, k _ _ (by simp only [List.length_set]; exact hl1) (slFree_set (slFree_set hsf fun j e => AV.store_ne h1 j (Option.some.inj e)) fun j e => AV.store_ne h2 j (Option.some.inj e)) ?_⟩
    have z := S2.set2 (slApp hsf hg) h1 h2 (j := j) (by rw [List.length_append]; omega)
    rw [set_app (by omega), set_app hj'] at z
    have z2 := z.setA (by simp only [List.length_set]; exact hl1) (slFree_set hsf fun j e => AV.store_ne h2 j (Option.some.inj e)) hg (AV.store_ne h1) (i := i) (by rw [List.length_set]; exact hi')
    rw [List.set_comm _ _ (Ne.symm hij), List.set_comm _ _ (Ne.symm hij)] at z2
    exact z2⟩
theorem three_of {K : PySem.W.Frag} {B H : Hp} {l : L2.St} {m : Ab} {vs : List V} (hl : vs.length = [a, b, c].length) (S : SR K B H (l ++ vs.map some) (m ++ [a, b, c].map some)) : ∃ u v w, vs = [u, v, w] ∧ SR K B H (l ++ [some u] ++ [some v] ++ [some w]) (m ++ [some a] ++ [some b] ++ [some c]) := by
  match vs, hl with
  | [u, v, w], _ => exact ⟨u, v, w, rfl, by rw [← List.append_cons, ← List.append_cons, ← List.append_cons, ← List.append_cons]; exact S⟩
theorem s_par3 {z : Str} {pz : Pos} (i j n : Nat) (hN : X.N.Nodup) (ha : A X [e1, e2, e3] δ [a, b, c] δ1) (hsf : slFree δ1 = true := by rfl) (h1 : a.store = true := by rfl) (h2 : b.store = true := by rfl) (h3 : c.store = true := by rfl) (hi0 : Nat.blt i δ1.length = true := by rfl) (hj0 : Nat.blt j δ1.length = true := by rfl) (hn0 : Nat.blt n δ1.length = true := by rfl) (hi : X.N[i]? = some x := by rfl) (hj : X.N[j]? = some y := by rfl) (hn : X.N[n]? = some z := by rfl)
    (hij : i ≠ j := by decide) (hin : i ≠ n := by decide) (hjn : j ≠ n := by decide) (hx : X.env.scope.names.lookup x = some .local := by rfl) (hy : X.env.scope.names.lookup y = some .local := by rfl) (hz : X.env.scope.names.lookup z = some .local := by rfl) (hc : X.calm = true := by rfl) {kt k2 pt2}
    (hw : swappedStores [.Tuple [.Name x px, .Name y py, .Name z pz] kt pt] (.Tuple [e1, e2, e3] k2 pt2) X.env = pure (some [x, y, z]) := by rfl)
    (hs : swapsWithSole [.Tuple [.Name x px, .Name y py, .Name z pz] kt pt] (.Tuple [e1, e2, e3] k2 pt2) pos.line X.env = pure false := by rfl) :
    S X (.Assign [.Tuple [.Name x px, .Name y py, .Name z pz] kt pt] (.Tuple [e1, e2, e3] k2 pt2) pos) δ (.nx (((δ1.set i (some a)).set j (some b)).set n (some c))) :=
  have hi' : i < δ1.length := lt_of_blt hi0
  have hj' : j < δ1.length := lt_of_blt hj0
  have hn' : n < δ1.length := lt_of_blt hn0
  ps_of (ps_par3 hc hN hi hj hn hij hin hjn hx hy hz ha hw hs) fun D σ H ⟨B, gs, γ, hl, _, hg, S, k⟩ => ⟨B, gs, γ, hl, S, fun vs H1 hlen S1 => by
    obtain ⟨u, v, w, ev, S2⟩ := three_of hlen S1
    have hl1 := SR.len3 hl S S2.pop.pop
    have f1 : ∀ j : Nat, some a ≠ some (AV.sl j) := fun j e => AV.store_ne h1 j (Option.some.inj e)
    have f2 : ∀ j : Nat, some b ≠ some (AV.sl j) := fun j e => AV.store_ne h2 j (Option.some.inj e)
    have f3 : ∀ j : Nat, some c ≠ some (AV.sl j) := fun j e => AV.store_ne h3 j (Option.some.inj e)
    refine ⟨u, v, w, ev, k _ _ (by simp only [List.length_set]; exact hl1) (slFree_set (slFree_set (slFree_set hsf f1) f2) f3) ?_⟩
    have z := S2.set2 (by rw [slFree_app, slApp hsf hg, slFree_one h1]; rfl) h2 h3 (j := n) (by rw [List.length_append, List.length_append]; omega)
    have e1 : (σ ++ gs ++ [some u]).set n (some w) = σ.set n (some w) ++ gs ++ [some u] := by rw [set_app (by rw [List.length_append]; omega), set_app (by omega)]
    have e2 : (δ1 ++ γ ++ [some a]).set n (some c) = δ1.set n (some c) ++ γ ++ [some a] := by rw [set_app (by rw [List.length_append]; omega), set_app hn']
    rw [e1, e2] at z
    have z1 := z.set2 (slApp (slFree_set hsf f3) hg) h1 h2 (j := j) (by simp only [List.length_append, List.length_set]; omega)
    rw [set_app (by simp only [List.length_set]; omega), set_app (by simp only [List.length_set]; omega)] at z1
    have z2 := z1.setA (by simp only [List.length_set]; exact hl1) (slFree_set (slFree_set hsf f3) f2) hg (AV.store_ne h1) (i := i) (by simp only [List.length_set]; exact hi')
    rw [List.set_comm _ _ (Ne.symm hij), List.set_comm _ _ (Ne.symm hij), List.set_comm _ _ (Ne.symm hin), List.set_comm _ _ (Ne.symm hin), List.set_comm _ _ (Ne.symm hjn), List.set_comm _ _ (Ne.symm hjn)] at z2
    exact z2⟩
theorem setAll_sl : ∀ {js : List Nat} {ds : List PyData} {δ : Ab}, slFree δ = true → slFree (setAll δ js ds) = true
  | [], _, _, h => h
  | _ :: _, [], _, h => h
  | j :: js, d :: ds, δ, h => setAll_sl (js := js) (ds := ds) (slFree_set h fun i e => by cases e)
/-- a, b, .. = a tuple -/
theorem s_tup {js : List Nat} {n : Nat} {tgs : List Expr} {k0 : Nat} (he : E X e δ (.dat (.tuple ds)) δ1) (hg : PGs X tgs (gNames js)) (hfr : Free δ1 js ds) (hsf : slFree δ1 = true := by rfl) (hn : ds.length = n := by rfl) (hc : X.calm = true := by rfl)
    (hn2 : (assignEach tgs X.env).length = n := by rfl) (hst : (assignEach tgs X.env).findIdx? (·.1) = none := by rfl)
    (hs : swapsWithSole [.Tuple tgs k0 p] e pos.line X.env = pure false := by rfl) (hw : swappedStores [.Tuple tgs k0 p] e X.env = pure none := by rfl) (h1 : (assignEach [.Tuple tgs k0 p] X.env).map (·.2) = [assign (.Tuple tgs k0 p) X.env] := by rfl) :
    S X (.Assign [.Tuple tgs k0 p] e pos) δ (.nx (setAll δ1 js ds)) :=
  ps_of (ps_asg he (pg_tup hc hg hn2 hst) hs hw h1) fun D σ H ⟨B, gs, γ, hl, _, hg, S, k⟩ => ⟨B, gs, γ, hl, S, fun v H1 S1 =>
    tgx_tup hfr hn B H1 σ gs γ v _ (SR.len3 hl S S1) S1.pop S1.last fun σ' hl' _ S' => k σ' H1 hl' (setAll_sl hsf) S'⟩
end
end G
end FW9
section FW10
set_option Elab.async false
set_option linter.all false
set_option maxRecDepth 100000
set_option maxHeartbeats 4000000
namespace G
open PySem L2
section
variable {X : Cx} {δ δ0 δ1 δ2 δ3 δ' : Ab} {it a b c : AV} {e e1 e2 e3 iter tg : Expr} {pos pos' p p1 p2 px py pt apos cpos : Pos} {ds : List PyData} {out : Out} {st : Stmt} {rest sts body s1 s2 : List Stmt} {x y f : Str} {i j : Nat} {d : PyData} {g : TG} {js : List Nat}
/-! ### for -/
def unS (K : PySem.W.Frag) (ds : List PyData) (δd : Nat → PyData → Ab) (st : Nat → Ab) : TS := fun D σ H => ∃ i d, ds[i]? = some d ∧ tS K (δd i d) (.nx (st (i + 1))) D σ H
theorem pss_un {K : PySem.W.Frag} (hK : X.K = K) {δd : Nat → PyData → Ab} {st : Nat → Ab} (hb : ∀ i d, ds[i]? = some d → Ss X body (δd i d) (.nx (st (i + 1)))) : PSs X body (unS K ds δd st) := by
  subst hK
  exact ⟨fun pins s σ H D I ⟨i, d, hi, q⟩ => (hb i d hi).run pins s σ H D I q⟩
def AV.loop : AV → Bool
  | .dat _ => true
  | .lst _ _ => true
  | .fz _ => true
  | _ => false
theorem frOk_loop {γ : Ab} (h : frOk γ = true) (ha : it.loop = true) : frOk (γ ++ [some it]) = true := by
  unfold frOk at h ⊢
  rw [List.all_append, h]
  cases it <;> first | rfl | cases ha
theorem view_loop (ha : it.loop = true) (h : view δ it = some d) (δ' : Ab) : view δ' it = some d := by
  cases it <;> first | exact h | cases ha
/-- a turn of a loop -/
theorem for_turn {K : PySem.W.Frag} {B : Hp} {σ gs : L2.St} {γ : Ab} {D : Ends} {δd : Nat → PyData → Ab} {st : Nat → Ab} {v x : V} {H : Hp} {N : L2.St → Hp → Prop}
    (hd : ds[i]? = some d) (hgx : TgX K g js (st i) d (δd i d)) (hsd : slFree (δd i d) = true) (hg : frOk γ = true) (hl : σ.length = (st i).length) (S : SR K B H (σ ++ gs) (st i ++ γ)) (hx : Stay K B H x d)
    (hN : ∀ σ' H', σ'.length = (st (i + 1)).length → slFree (st (i + 1)) = true → SR K B H' (σ' ++ gs) (st (i + 1) ++ γ) → N σ' H') : g x σ H fun σ2 H2 => unS K ds δd st { D with nx := N, ct := N, bk := D.nx } σ2 H2 :=
  hgx B H σ gs γ x _ hl S hx fun σ' hl' _ S' => ⟨i, d, hd, B, gs, γ, hl', hsd, hg, S', hN⟩
theorem for_coreL {K : PySem.W.Frag} {B : Hp} {σ gs : L2.St} {γ : Ab} {D : Ends} {δd : Nat → PyData → Ab} {st : Nat → Ab} {v : V} {H1 : Hp}
    (hit : view δ1 it = some (.list ds)) (hlp : it.loop = true) (h0 : Le (st 0) δ1) (hsf : slFree δ1 = true) (hgx : ∀ i d, ds[i]? = some d → TgX K g js (st i) d (δd i d)) (hsd : ∀ i d, ds[i]? = some d → slFree (δd i d) = true)
    (hl : σ.length = δ1.length) (hg : frOk γ = true) (S1 : SR K B H1 (σ ++ gs ++ [some v]) (δ1 ++ γ ++ [some it])) (kk : ∀ σ' H', σ'.length = (st ds.length).length → slFree (st ds.length) = true → SR K B H' (σ' ++ gs) (st ds.length ++ γ) → D.nx σ' H') :
    ∃ a, v = V.ref a ∧ (∃ xs, SqL K H1 a xs) ∧ ∃ W : Nat → Nat → L2.St → Hp → Prop, (∃ m, W 0 m σ H1) ∧ ∀ i m σ H, W i m σ H →
      ((Itl K a).stop i H ∧ D.nx σ H) ∨ ((Itl K a).go i H ∧ ∃ N : L2.St → Hp → Prop, (∀ σ' H', N σ' H' → ∃ m', m' < m ∧ W (i + 1) m' σ' H') ∧ ∀ x H', (Itl K a).yld i H x H' → g x σ H' fun σ2 H2 => unS K ds δd st { D with nx := N, ct := N, bk := D.nx } σ2 H2) := by
  obtain ⟨a, xs, rfl, hq, hi⟩ := S1.list S1.last (view_app (view_app hit))
  refine ⟨a, rfl, ⟨xs, hq⟩, ?_⟩
  have hit' : ∀ m, view m it = some (.list ds) := view_loop hlp hit
  refine ⟨fun i m σ H => m = ds.length - i ∧ i ≤ ds.length ∧ σ.length = (st i).length ∧ slFree (st i) = true ∧ SR K B H (σ ++ gs ++ [some (V.ref a)]) (st i ++ γ ++ [some it]), ⟨ds.length, rfl, Nat.zero_le _, hl.trans h0.len.symm, h0.slFree hsf, ?_⟩, ?_⟩
  · have z : Le (st 0 ++ γ ++ [some it]) (δ1 ++ γ ++ [some it]) := h0.app.app
    refine S1.le z (by rw [List.append_assoc]; exact slApp hsf (frOk_loop hg hlp))
  · rintro i m σ H ⟨rfl, hile, hl, hs, S⟩
    obtain ⟨a', ws, e, h1, h2⟩ := S.list S.last (hit' _)
    cases e
    have hwl := dps_len h2.1
    by_cases hlt : i < ds.length
    · refine .inr ⟨⟨ws, ws[i]'(by omega), h1, List.getElem?_eq_getElem (by omega)⟩, _, fun σ' H' S' => ⟨ds.length - (i + 1), by omega, rfl, hlt, S'⟩, fun x H' hy => ?_⟩
      obtain ⟨rfl, hx⟩ := hy
      have hdi : ds[i]? = some ds[i] := List.getElem?_eq_getElem hlt
      refine for_turn (i := i) (v := .non) (γ := γ ++ [some it]) (gs := gs ++ [some (V.ref a)]) hdi (hgx i _ hdi) (hsd i _ hdi) (frOk_loop hg hlp) hl (by rw [← List.append_assoc, ← List.append_assoc]; exact S) (h2.2 i x _ (hx ws h1) hdi) fun σ' H' hl' hs' S' => ⟨hl', hs', by rw [← List.append_assoc, ← List.append_assoc] at S'; exact S'⟩
    · have e : i = ds.length := by omega
      subst e
      exact .inl ⟨⟨ws, h1, by omega⟩, kk _ _ hl hs S.pop⟩
theorem s_forL {st : Nat → Ab} {δd : Nat → PyData → Ab} (he : E X iter δ it δ1) (hit : view δ1 it = some (.list ds)) (hlp : it.loop = true) (h0 : Le (st 0) δ1) (hsf : slFree δ1 = true) (hg : PG X tg g) (hgx : ∀ i d, ds[i]? = some d → TgX X.K g js (st i) d (δd i d)) (hsd : ∀ i d, ds[i]? = some d → slFree (δd i d) = true)
    (hb : ∀ i d, ds[i]? = some d → Ss X body (δd i d) (.nx (st (i + 1)))) (hp : PassesOwn (model X.prog X.w) X.A X.env X.xe := by exact PassesOwn.never) (hc : X.calm = true := by rfl) (hs : ∀ x, foldedSetIterable iter X.env x = pure x := by intro _; rfl) : S X (.For tg iter body [] pos) δ (.nx (st ds.length)) :=
  ps_of (ps_for hp hc (pi_list he) hg (pss_un rfl hb) hs) fun D σ H ⟨B, gs, γ, hl, _, hfr, S, k⟩ => ⟨B, gs, γ, hl, S, fun v H1 S1 => for_coreL hit hlp h0 hsf hgx hsd (SR.len3 hl S S1) hfr S1 k⟩
theorem for_coreT {K : PySem.W.Frag} {B : Hp} {σ gs : L2.St} {γ : Ab} {D : Ends} {δd : Nat → PyData → Ab} {st : Nat → Ab} {v : V} {H1 : Hp}
    (hit : view δ1 it = some (.tuple ds)) (hlp : it.loop = true) (h0 : Le (st 0) δ1) (hsf : slFree δ1 = true) (hgx : ∀ i d, ds[i]? = some d → TgX K g js (st i) d (δd i d)) (hsd : ∀ i d, ds[i]? = some d → slFree (δd i d) = true)
    (hl : σ.length = δ1.length) (hg : frOk γ = true) (S1 : SR K B H1 (σ ++ gs ++ [some v]) (δ1 ++ γ ++ [some it])) (kk : ∀ σ' H', σ'.length = (st ds.length).length → slFree (st ds.length) = true → SR K B H' (σ' ++ gs) (st ds.length ++ γ) → D.nx σ' H') :
    ∃ a, v = V.ref a ∧ (∃ xs, SqT K H1 a xs) ∧ ∃ W : Nat → Nat → L2.St → Hp → Prop, (∃ m, W 0 m σ H1) ∧ ∀ i m σ H, W i m σ H →
      ((Itt K a).stop i H ∧ D.nx σ H) ∨ ((Itt K a).go i H ∧ ∃ N : L2.St → Hp → Prop, (∀ σ' H', N σ' H' → ∃ m', m' < m ∧ W (i + 1) m' σ' H') ∧ ∀ x H', (Itt K a).yld i H x H' → g x σ H' fun σ2 H2 => unS K ds δd st { D with nx := N, ct := N, bk := D.nx } σ2 H2) := by
  obtain ⟨a, xs, rfl, hq, hi⟩ := S1.tuple S1.last (view_app (view_app hit))
  refine ⟨a, rfl, ⟨xs, hq⟩, ?_⟩
  have hit' : ∀ m, view m it = some (.tuple ds) := view_loop hlp hit
  refine ⟨fun i m σ H => m = ds.length - i ∧ i ≤ ds.length ∧ σ.length = (st i).length ∧ slFree (st i) = true ∧ SR K B H (σ ++ gs ++ [some (V.ref a)]) (st i ++ γ ++ [some it]), ⟨ds.length, rfl, Nat.zero_le _, hl.trans h0.len.symm, h0.slFree hsf, ?_⟩, ?_⟩
  · have z : Le (st 0 ++ γ ++ [some it]) (δ1 ++ γ ++ [some it]) := h0.app.app
    refine S1.le z (by rw [List.append_assoc]; exact slApp hsf (frOk_loop hg hlp))
  · rintro i m σ H ⟨rfl, hile, hl, hs, S⟩
    obtain ⟨a', ws, e, h1, h2⟩ := S.tuple S.last (hit' _)
    cases e
    have hwl := dps_len h2.1
    by_cases hlt : i < ds.length
    · refine .inr ⟨⟨ws, ws[i]'(by omega), h1, List.getElem?_eq_getElem (by omega)⟩, _, fun σ' H' S' => ⟨ds.length - (i + 1), by omega, rfl, hlt, S'⟩, fun x H' hy => ?_⟩
      obtain ⟨rfl, hx⟩ := hy
      have hdi : ds[i]? = some ds[i] := List.getElem?_eq_getElem hlt
      refine for_turn (i := i) (v := .non) (γ := γ ++ [some it]) (gs := gs ++ [some (V.ref a)]) hdi (hgx i _ hdi) (hsd i _ hdi) (frOk_loop hg hlp) hl (by rw [← List.append_assoc, ← List.append_assoc]; exact S) (h2.2 i x _ (hx ws h1) hdi) fun σ' H' hl' hs' S' => ⟨hl', hs', by rw [← List.append_assoc, ← List.append_assoc] at S'; exact S'⟩
    · have e : i = ds.length := by omega
      subst e
      exact .inl ⟨⟨ws, h1, by omega⟩, kk _ _ hl hs S.pop⟩
theorem s_forT {st : Nat → Ab} {δd : Nat → PyData → Ab} (he : E X iter δ it δ1) (hit : view δ1 it = some (.tuple ds)) (hlp : it.loop = true) (h0 : Le (st 0) δ1) (hsf : slFree δ1 = true) (hg : PG X tg g) (hgx : ∀ i d, ds[i]? = some d → TgX X.K g js (st i) d (δd i d)) (hsd : ∀ i d, ds[i]? = some d → slFree (δd i d) = true)
    (hb : ∀ i d, ds[i]? = some d → Ss X body (δd i d) (.nx (st (i + 1)))) (hp : PassesOwn (model X.prog X.w) X.A X.env X.xe := by exact PassesOwn.never) (hc : X.calm = true := by rfl) (hs : ∀ x, foldedSetIterable iter X.env x = pure x := by intro _; rfl) : S X (.For tg iter body [] pos) δ (.nx (st ds.length)) :=
  ps_of (ps_for hp hc (pi_tup he) hg (pss_un rfl hb) hs) fun D σ H ⟨B, gs, γ, hl, _, hfr, S, k⟩ => ⟨B, gs, γ, hl, S, fun v H1 S1 => for_coreT hit hlp h0 hsf hgx hsd (SR.len3 hl S S1) hfr S1 k⟩
/-- for i in range(n) -/
theorem s_forR {n : Nat} {st : Nat → Ab} {δd : Nat → Ab} (ha : A X [e] δ [.dat (.int n)] δ1) (hn : n < 1000000) (hm : X.mg "range" = none) (h0 : Le (st 0) δ1) (hsf : slFree δ1 = true) (hg : PG X tg g) (hgx : ∀ i, i < n → TgX X.K g js (st i) (.int i) (δd i)) (hsd : ∀ i, i < n → slFree (δd i) = true)
    (hb : ∀ i, i < n → Ss X body (δd i) (.nx (st (i + 1)))) (hgl : Gl X "range" := by rfl) (hs1 : starEach [e] X.env = [(false, eval e X.env)] := by rfl) (hp : PassesOwn (model X.prog X.w) X.A X.env X.xe := by exact PassesOwn.never) (hc : X.calm = true := by rfl)
    (hs : ∀ x, foldedSetIterable (.Call (.Name "range" p) [e] [] p1) X.env x = pure x := by intro _; rfl) : S X (.For tg (.Call (.Name "range" p) [e] [] p1) body [] pos) δ (.nx (st n)) := by
  have hb' : PSs X body (fun D σ H => ∃ i, i < n ∧ tS X.K (δd i) (.nx (st (i + 1))) D σ H) := ⟨fun pins s σ H D I ⟨i, hi, q⟩ => (hb i hi).run pins s σ H D I q⟩
  refine ps_of (ps_for hp hc (pi_range1 hgl hm ha hs1) hg hb' hs) fun D σ H ⟨B, gs, γ, hl, _, hfr, S, k⟩ => ⟨B, gs, γ, hl, S, fun vs H1 hlen S1 => ?_⟩
  obtain ⟨v, rfl, S2⟩ := one_of hlen S1
  refine ⟨n, by rw [int_of S2.last], by omega, by omega, ?_⟩
  have z := for_range (lo := 0) (n := (n : Int).toNat) (g := g) (tb := fun D σ H => ∃ i, i < n ∧ tS X.K (δd i) (.nx (st (i + 1))) D σ H) (D := D) (fun i σ H => σ.length = (st i).length ∧ slFree (st i) = true ∧ SR X.K B H (σ ++ gs) (st i ++ γ))
    (σ := σ) (H := H1) ⟨(SR.len3 hl S S2).trans h0.len.symm, h0.slFree hsf, S2.pop.le h0.app (slApp hsf hfr)⟩
  refine z (fun i σ H hi ⟨hl, hs, S⟩ => ?_) (fun σ H ⟨hl, hs, S⟩ => k σ H hl hs S)
  have hi' : i < n := by omega
  have e0 : (0 : Int) + (i : Int) = (i : Int) := Int.zero_add _
  rw [e0]
  exact hgx i hi' B H σ gs γ _ _ hl S (.inl (.int _)) fun σ' hl' _ S' => ⟨i, hi', B, gs, γ, hl', hsd i hi', hfr, S', fun σ'' H'' a b c => ⟨a, b, c⟩⟩
/-! ### while -/
theorem s_while {α : Type} {c : Expr} (st : α → Ab) (P : α → Prop) (μ : α → Nat) (cb : α → Bool) (x0 : α) (h0 : P x0) (hst : Le (st x0) δ) (hT : ∀ x, P x → T X c (st x) (cb x) (st x)) (hb : ∀ x, P x → cb x = true → ∃ y, P y ∧ μ y < μ x ∧ Ss X body (st x) (.nx (st y)))
    (hfin : ∀ x, P x → cb x = false → Le δ' (st x)) (hp : PassesOwn (model X.prog X.w) X.A X.env X.xe := by exact PassesOwn.never) : S X (.While c body [] pos) δ (.nx δ') := by
  have hc' : PT X c (fun σ H Q => ∃ x, P x ∧ tT X.K (st x) (cb x) (st x) σ H Q) := ⟨fun pins s σ H Q I ⟨x, hx, q⟩ => (hT x hx).run pins s σ H Q I q⟩
  have hb' : PSs X body (fun D σ H => ∃ x y, (P x ∧ P y ∧ μ y < μ x ∧ Ss X body (st x) (.nx (st y))) ∧ tS X.K (st x) (.nx (st y)) D σ H) := ⟨fun pins s σ H D I ⟨x, y, hx, q⟩ => hx.2.2.2.run pins s σ H D I q⟩
  refine ps_of (ps_while hp hc' hb') fun D σ H ⟨B, gs, γ, hl, hsf, hfr, S, k⟩ => ?_
  refine ⟨fun m σ H => ∃ x, P x ∧ μ x = m ∧ σ.length = (st x).length ∧ slFree (st x) = true ∧ SR X.K B H (σ ++ gs) (st x ++ γ), ⟨μ x0, x0, h0, rfl, hl.trans hst.len.symm, hst.slFree hsf, S.le hst.app (slApp hsf hfr)⟩, ?_⟩
  rintro m σ H ⟨x, hx, rfl, hl, hs, S⟩
  refine ⟨x, hx, B, gs, γ, hl, S, fun H2 S2 => ?_⟩
  cases hcb : cb x with
  | false => exact iteF (k σ H2 (hl.trans (hfin x hx hcb).len.symm) ((hfin x hx hcb).slFree hs) (S2.le (hfin x hx hcb).app (slApp hs hfr)))
  | true =>
    obtain ⟨y, hy, hlt, hB⟩ := hb x hx hcb
    exact iteT ⟨fun σ' H' => σ'.length = (st y).length ∧ slFree (st y) = true ∧ SR X.K B H' (σ' ++ gs) (st y ++ γ), fun σ' H' ⟨a, b, c⟩ => ⟨μ y, hlt, y, hy, rfl, a, b, c⟩, x, y, ⟨hx, hy, hlt, hB⟩, B, gs, γ, hl, hs, hfr, S2, fun σ' H' a b c => ⟨a, b, c⟩⟩
end
end G
end FW10
section FW11
set_option Elab.async false
set_option linter.all false
set_option maxRecDepth 100000
set_option maxHeartbeats 4000000
namespace G
open PySem L2
section
variable {X : Cx} {δ δ0 δ1 δ2 δ3 δ' : Ab} {it it2 a b c : AV} {e e1 e2 e3 iter tg : Expr} {pos pos' p p1 p2 px py pt apos cpos : Pos} {ds es : List PyData} {out : Out} {st : Stmt} {rest sts body s1 s2 : List Stmt} {x y f : Str} {i j : Nat} {d : PyData} {g : TG} {js : List Nat} {o : Option Addr}
/-! ### lists written -/
theorem set_at {α : Type} {xs : List α} {i : Nat} {z : α} (h : xs[i]? = some z) : xs.set i z = xs := by
  apply List.ext_getElem?
  intro j
  by_cases hj : i = j
  · subst hj
    rw [List.getElem?_set_self (List.getElem?_eq_some_iff.mp h).1, h]
  · rw [List.getElem?_set_ne hj]
/-- xs.append(e) -/
theorem s_append (i : Nat) (he : E X e δ a δ1) (hi0 : δ[i]? = some (some (.lst o ds))) (hi : δ1[i]? = some (some (.lst o ds))) (hv : view δ1 a = some d) (hno : noL d = true) (hlen : ds.length < 100000) (hsf : slFree δ1 = true := by rfl) (hN : X.N[i]? = some x := by rfl) (hV : Vis X.env.scope x := by first | exact Or.inl rfl | exact Or.inr (Or.inl rfl) | exact Or.inr (Or.inr rfl))
    (hd1 : (x == ("__debug__" : Str)) = false := by decide) (hd2 : (x == ("__classdict__" : Str)) = false := by decide)
    (hbase : attributeBase (.Name x px) "append" X.env (eval (.Name x px) X.env) = eval (.Name x px) X.env := by rfl)
    (hfew : ((backTo cpos (starEach [e] X.env)).all (fun x => !x.1) && (backToKw cpos (keywordEach [] X.env)).all (fun x => x.1.isSome) && decide ([e].length + ([] : List Keyword).length + (if ([] : List Keyword).isEmpty then 0 else 1) < 30)) = true := by rfl)
    (hline : (apos.endLine == cpos.line) = true := by rfl) (hs : starEach [e] X.env = (false, eval e X.env) :: starEach [] X.env := by rfl) (hplain : (backTo cpos (starEach [] X.env)).any (·.1) = false := by rfl)
    (hsw : swapsWith (.Call (.Attribute (.Name x px) "append" apos) [e] [] cpos) none pos.line X.env = pure false := by rfl) :
    S X (.Expr (.Call (.Attribute (.Name x px) "append" apos) [e] [] cpos) pos) δ (.nx (δ1.set i (some (.lst o (ds ++ [d]))))) := by
  have hA : E X (.Name x px) δ (.sl i) δ := e_varS i hi0 hN hV hd1 hd2
  refine ps_of (ps_expr (pe_bm PySem.F.plainAttrs_list PySem.F.slot_list_append PySem.F.type_list_append mt_append hA (a_one he hs) hbase hfew hline hs hplain) hsw) fun D σ H ⟨B, gs, γ, hl, _, hfr, S, k⟩ => ⟨B, gs, γ, hl, S, fun v H1 S1 => ?_⟩
  have hi' : (δ ++ γ)[i]? = some (some (.lst o ds)) := getq_append_left' hi0
  obtain ⟨q, vs, ev, hq, hit⟩ := S1.list S1.last (show view (δ ++ γ ++ [some (.sl i)]) (.sl i) = some (.list ds) by show lview (δ ++ γ ++ [some (.sl i)])[i]? = _; rw [getq_append_left' hi']; rfl)
  subst ev
  refine ⟨.inl ⟨rfl, _, hq⟩, B, gs ++ [some (.ref q)], γ ++ [some (.sl i)], SR.len3 hl S S1, by rw [← List.append_assoc, ← List.append_assoc]; exact S1, fun us H2 hlen2 S2 => ?_⟩
  obtain ⟨y, rfl, S3⟩ := one_of hlen2 S2
  rw [← List.append_assoc, ← List.append_assoc] at S3
  have hi1 : (δ1 ++ γ)[i]? = some (some (.lst o ds)) := getq_append_left' hi
  have P := S3.pop
  have PP := P.pop
  have hsl : (σ ++ gs ++ [some (V.ref q)])[i]? = some (some (V.ref q)) := P.last
  have hil : i < (σ ++ gs).length := by
    have z := (List.getElem?_eq_some_iff.mp hi1).1
    have z2 := PP.len
    omega
  rw [List.getElem?_append_left hil] at hsl
  obtain ⟨u, g1, q', eq, _, _, hn, vs2, hv2, hd2⟩ := PP.rel i _ hi1
  rw [hsl] at g1
  cases g1
  cases eq
  have hy : Dp X.K H2 y d := S3.dp S3.last (view_app (view_app (view_app hv)))
  refine ⟨q, vs2, y, rfl, rfl, hv2, by rw [dps_len hd2]; exact sz_lt hlen, k _ _ (by rw [List.length_set]; exact SR.len2 hl S PP) (slFree_set hsf fun j e => by cases e) ?_⟩
  have M := PP.mut (ds' := ds ++ [d]) (vs' := vs2 ++ [y]) hi1 hsl (noLs_app hn (by rw [noLs, hno]; rfl)) (dps_app hd2 (.cons hy .nil))
  rw [set_app (List.getElem?_eq_some_iff.mp hi).1] at M
  exact M
/-- xs[k] = e -/
theorem s_setL {ti : Expr} {k0 : Int} {jj : Nat} (i : Nat) (he : E X e δ a δ1) (hv : view δ1 a = some d) (hno : noL d = true) (hst : a.plain = true) (hi : δ1[i]? = some (some (.lst o ds))) (hk : E X ti δ1 (.dat (.int k0)) δ1) (hix : ixN ds.length k0 = some jj) (hsf : slFree δ1 = true := by rfl) (hN : X.N[i]? = some x := by rfl) (hV : Vis X.env.scope x := by first | exact Or.inl rfl | exact Or.inr (Or.inl rfl) | exact Or.inr (Or.inr rfl))
    (hd1 : (x == ("__debug__" : Str)) = false := by decide) (hd2 : (x == ("__classdict__" : Str)) = false := by decide)
    (ha : ∀ v, assign (.Subscript (.Name x px) ti p1) X.env v = (do
      let ov ← holding [v] (eval (.Name x px) X.env)
      let iv ← holding [v, ov] (eval ti X.env)
      standAt p1
      holding [v, ov, iv] (setItem ov iv v)
      release [v, ov, iv] []) := by intro _; rfl)
    (hs : swapsWithSole [.Subscript (.Name x px) ti p1] e pos.line X.env = pure false := by rfl) (hw : swappedStores [.Subscript (.Name x px) ti p1] e X.env = pure none := by rfl) (h1 : (assignEach [.Subscript (.Name x px) ti p1] X.env).map (·.2) = [assign (.Subscript (.Name x px) ti p1) X.env] := by rfl) :
    S X (.Assign [.Subscript (.Name x px) ti p1] e pos) δ (.nx (δ1.set i (some (.lst o (ds.set jj d))))) := by
  have hA : E X (.Name x px) δ1 (.sl i) δ1 := e_varS i hi hN hV hd1 hd2
  refine ps_of (ps_asg he (pg_sub hA hk set_list ha) hs hw h1) fun D σ H ⟨B, gs, γ, hl, _, hfr, S, k⟩ => ⟨B, gs, γ, hl, S, fun v H1 S1 => ?_⟩
  refine ⟨B, gs ++ [some v], γ ++ [some a], SR.len3 hl S S1, by rw [← List.append_assoc, ← List.append_assoc]; exact S1, fun ov H2 S2 => ?_⟩
  refine ⟨B, gs ++ [some v] ++ [some ov], γ ++ [some a] ++ [some (.sl i)], SR.len3 hl S S1, by simpa using S2, fun iv H3 S3 => ?_⟩
  have S4 : SR X.K B H3 (σ ++ gs ++ [some v] ++ [some ov] ++ [some iv]) (δ1 ++ γ ++ [some a] ++ [some (.sl i)] ++ [some (.dat (.int k0))]) := by simpa using S3
  have hi1 : (δ1 ++ γ)[i]? = some (some (.lst o ds)) := getq_append_left' hi
  have P := S4.pop
  have PP := P.pop
  have PPP := PP.pop
  have hsl : (σ ++ gs ++ [some v] ++ [some ov])[i]? = some (some ov) := P.last
  have hil : i < (σ ++ gs).length := by
    have z := (List.getElem?_eq_some_iff.mp hi1).1
    have z2 := PPP.len
    omega
  rw [List.getElem?_append_left (by rw [List.length_append]; omega), List.getElem?_append_left hil] at hsl
  obtain ⟨u, g1, q, eq, _, _, hn, vs2, hv2, hd2⟩ := PPP.rel i _ hi1
  rw [hsl] at g1
  cases g1
  subst eq
  have hy : Dp X.K H3 v d := PP.dp PP.last (view_app (view_app hv))
  refine ⟨q, vs2, k0, jj, rfl, int_of S4.last, hv2, by rw [dps_len hd2]; exact hix, k _ _ (by rw [List.length_set]; exact SR.len3 hl S S1) (slFree_set hsf fun j e => by cases e) ?_⟩
  have M := PPP.mut (ds' := ds.set jj d) (vs' := vs2.set jj v) hi1 hsl (noLs_of fun z hz => by
    rcases List.mem_or_eq_of_mem_set hz with h | h
    · exact noLs_mem hn h
    · rw [h]; exact hno) (dps_set _ hy hd2)
  rw [set_app (List.getElem?_eq_some_iff.mp hi).1] at M
  exact M
/-- xs += e, e a list -/
theorem s_ext (i : Nat) (hi0 : δ[i]? = some (some (.lst o ds))) (he : E X e δ a δ1) (hi : δ1[i]? = some (some (.lst o ds))) (hv : view δ1 a = some (.list es)) (hk : a.isDat = false) (hlen : ds.length + es.length ≤ 100000) (hN : X.N.Nodup) (hsf : slFree δ1 = true := by rfl) (hx : X.N[i]? = some x := by rfl) (hL : Loc X.env.scope x := by first | exact .inl rfl | exact .inr rfl) (hf : X.fn x = true ∨ X.env.scope.names.lookup x = some .local := by first | exact .inl rfl | exact .inr rfl | assumption) :
    S X (.AugAssign (.Name x pos') .Add e pos) δ (.nx (δ1.set i (some (.lst o (ds ++ es))))) := by
  refine ps_of (ps_aug hN hx hL he iop_ext hf) fun D σ H ⟨B, gs, γ, hl, _, hfr, S, k⟩ => ?_
  have hi' : (δ ++ γ)[i]? = some (some (.lst o ds)) := getq_append_left' hi0
  obtain ⟨u, g1, q, eq, _, _, hn, vs, hv1, hd1⟩ := S.rel i _ hi'
  have hil : i < σ.length := by
    rw [hl]
    exact (List.getElem?_eq_some_iff.mp hi0).1
  subst eq
  refine ⟨.ref q, by rw [List.getElem?_append_left hil] at g1; exact g1, B, gs, γ, hl, S, fun w H1 S1 => ?_⟩
  have hi1 : (δ1 ++ γ)[i]? = some (some (.lst o ds)) := getq_append_left' hi
  obtain ⟨u, g2, q2, eq2, _, _, hn2, vs2, hv2, hd2⟩ := S1.pop.rel i _ hi1
  rw [g1] at g2
  cases g2
  cases eq2
  obtain ⟨r, ws, ew, hr, hdr, hnr⟩ := S1.lstT S1.last (view_app (view_app hv)) (fun d e => by rw [e] at hk; cases hk)
  subst ew
  refine ⟨q, r, vs2, ws, rfl, rfl, hv2, hr, by rw [dps_len hd2, dps_len hdr]; exact sz_ok hlen, ?_⟩
  have eσ : σ.set i (some (V.ref q)) = σ := set_at (by rw [List.getElem?_append_left hil] at g1; exact g1)
  show D.nx (σ.set i (some (V.ref q))) (upd H1 q (.lst (vs2 ++ ws)))
  rw [eσ]
  refine k _ _ (by rw [List.length_set]; exact SR.len3 hl S S1) (slFree_set hsf fun j e => by cases e) ?_
  have M := S1.pop.mut (ds' := ds ++ es) (vs' := vs2 ++ ws) hi1 g1 (noLs_app hn2 hnr) (dps_app hd2 hdr)
  rw [set_app (List.getElem?_eq_some_iff.mp hi).1] at M
  exact M
/-- n op= e, whole numbers -/
theorem s_augI {F : Int → Int → Int} {op : Operator} {n k0 : Int} (i : Nat) (ho : PIp X op (ipI F)) (hi0 : δ[i]? = some (some (.dat (.int n)))) (he : E X e δ (.dat (.int k0)) δ1) (hN : X.N.Nodup) (hsf : slFree δ1 = true := by rfl) (hx : X.N[i]? = some x := by rfl) (hL : Loc X.env.scope x := by first | exact .inl rfl | exact .inr rfl) (hil0 : Nat.blt i δ1.length = true := by rfl) (hf : X.fn x = true ∨ X.env.scope.names.lookup x = some .local := by first | exact .inl rfl | exact .inr rfl | assumption) :
    S X (.AugAssign (.Name x pos') op e pos) δ (.nx (δ1.set i (some (.dat (.int (F n k0)))))) := by
  have hil1 : i < δ1.length := lt_of_blt hil0
  refine ps_of (ps_aug hN hx hL he ho hf) fun D σ H ⟨B, gs, γ, hl, _, hfr, S, k⟩ => ?_
  obtain ⟨u, g1, h1⟩ := S.rel i _ (getq_append_left' hi0)
  have hil : i < σ.length := by
    rw [hl]
    exact (List.getElem?_eq_some_iff.mp hi0).1
  refine ⟨u, by rw [List.getElem?_append_left hil] at g1; exact g1, B, gs, γ, hl, S, fun w H1 S1 => ⟨n, k0, int_of h1, int_of S1.last, k _ _ (by rw [List.length_set, List.length_set]; exact SR.len3 hl S S1) (slFree_set hsf fun j e => by cases e) ?_⟩⟩
  exact (S1.pop.pushP (v := .int (F n k0)) rl_int rfl).setA (SR.len3 hl S S1) hsf hfr (fun j e => by cases e) hil1
/-- a, b = a list -/
theorem s_unl {n : Nat} {tgs : List Expr} {k0 : Nat} (he : E X e δ a δ1) (hv : view δ1 a = some (.list ds)) (hg : PGs X tgs (gNames js)) (hfr : Free δ1 js ds) (hsf : slFree δ1 = true := by rfl) (hn : ds.length = n := by rfl) (hc : X.calm = true := by rfl)
    (hn2 : (assignEach tgs X.env).length = n := by rfl) (hst : (assignEach tgs X.env).findIdx? (·.1) = none := by rfl)
    (hs : swapsWithSole [.Tuple tgs k0 p] e pos.line X.env = pure false := by rfl) (hw : swappedStores [.Tuple tgs k0 p] e X.env = pure none := by rfl) (h1 : (assignEach [.Tuple tgs k0 p] X.env).map (·.2) = [assign (.Tuple tgs k0 p) X.env] := by rfl) :
    S X (.Assign [.Tuple tgs k0 p] e pos) δ (.nx (setAll δ1 js ds)) :=
  ps_of (ps_asg he (pg_unl hc hg hn2 hst) hs hw h1) fun D σ H ⟨B, gs, γ, hl, _, hg, S, k⟩ => ⟨B, gs, γ, hl, S, fun v H1 S1 => by
    obtain ⟨q, vs, ev, hq, hi⟩ := S1.list S1.last (view_app (view_app hv))
    exact ⟨q, vs, ev, hq, by rw [dps_len hi.1, hn], tgx_names (vs := vs) hfr (SR.len3 hl S S1) S1.pop (dps_len hi.1) hi.2 fun σ' hl' _ S' => k σ' H1 hl' (setAll_sl hsf) S'⟩⟩
end
end G
end FW11
section FW12
set_option Elab.async false
set_option linter.all false
set_option maxRecDepth 100000
set_option maxHeartbeats 4000000
namespace G
open PySem PySem.Spec PyProof.Rows L2
section
variable {X : Cx} {δ δ0 δ1 δ2 δ3 δ' : Ab} {it it2 a b c : AV} {e e1 e2 e3 iter tg : Expr} {pos pos' p p1 p2 px py pt apos cpos tpos : Pos} {ds es : List PyData} {out : Out} {st : Stmt} {rest sts body s1 s2 : List Stmt} {x y f : Str} {i j : Nat} {d d' : PyData} {g : TG} {js : List Nat} {o : Option Addr}
theorem for_turn2 {K : PySem.W.Frag} {B : Hp} {σ gs : L2.St} {γ : Ab} {D : Ends} {δd : Nat → PyData → Ab} {st : Nat → Ab} {x : V} {H : Hp} {N : L2.St → Hp → Prop}
    (hd : ds[i]? = some d) (hgx : TgX K g js (st i) d' (δd i d)) (hsd : slFree (δd i d) = true) (hg : frOk γ = true) (hl : σ.length = (st i).length) (S : SR K B H (σ ++ gs) (st i ++ γ)) (hx : Stay K B H x d')
    (hN : ∀ σ' H', σ'.length = (st (i + 1)).length → slFree (st (i + 1)) = true → SR K B H' (σ' ++ gs) (st (i + 1) ++ γ) → N σ' H') : g x σ H fun σ2 H2 => unS K ds δd st { D with nx := N, ct := N, bk := D.nx } σ2 H2 :=
  hgx B H σ gs γ x _ hl S hx fun σ' hl' _ S' => ⟨i, d, hd, B, gs, γ, hl', hsd, hg, S', hN⟩
theorem noL_pair {d e : PyData} (h1 : noL d = true) (h2 : noL e = true) : noL (.tuple [d, e]) = true := by
  show (noL d && (noL e && true)) = true
  rw [h1, h2]
  rfl
/-- for .. in enumerate(xs) -/
theorem s_forE {elts : List Expr} {kk : Nat} {st : Nat → Ab} {δd : Nat → PyData → Ab} (ha : A X [e] δ [it] δ1) (hit : view δ1 it = some (.list ds)) (hn : noLs ds = true) (hlp : it.loop = true) (hm : X.mg "enumerate" = none) (h0 : Le (st 0) δ1) (hsf : slFree δ1 = true) (hg : PG X (.Tuple elts kk tpos) g)
    (hgx : ∀ i d, ds[i]? = some d → TgX X.K g js (st i) (.tuple [.int i, d]) (δd i d)) (hsd : ∀ i d, ds[i]? = some d → slFree (δd i d) = true) (hb : ∀ i d, ds[i]? = some d → Ss X body (δd i d) (.nx (st (i + 1)))) (hgl : Gl X "enumerate" := by rfl) (hs1 : starEach [e] X.env = [(false, eval e X.env)] := by rfl)
    (hp : PassesOwn (model X.prog X.w) X.A X.env X.xe := by exact PassesOwn.never) (hc : X.calm = true := by rfl) (hs : ∀ x, foldedSetIterable (.Call (.Name "enumerate" p) [e] [] p1) X.env x = pure x := by intro _; rfl) :
    S X (.For (.Tuple elts kk tpos) (.Call (.Name "enumerate" p) [e] [] p1) body [] pos) δ (.nx (st ds.length)) := by
  refine ps_of (ps_for hp hc (pi_enum hgl hm ha hs1) hg (pss_un rfl hb) hs) fun D σ H ⟨B, gs, γ, hl, _, hfr, S, k⟩ => ⟨B, gs, γ, hl, S, fun vs H1 hlen S1 => ?_⟩
  obtain ⟨v, rfl, S1⟩ := one_of hlen S1
  obtain ⟨a, xs, rfl, hq, hi⟩ := S1.list S1.last (view_app (view_app hit))
  refine ⟨a, xs, rfl, hq, ?_⟩
  have hit' : ∀ m, view m it = some (.list ds) := view_loop hlp hit
  refine ⟨fun i m σ H => m = ds.length - i ∧ i ≤ ds.length ∧ σ.length = (st i).length ∧ slFree (st i) = true ∧ SR X.K B H (σ ++ gs ++ [some (V.ref a)]) (st i ++ γ ++ [some it]), ⟨ds.length, rfl, Nat.zero_le _, (SR.len3 hl S S1).trans h0.len.symm, h0.slFree hsf, ?_⟩, ?_⟩
  · exact S1.le h0.app.app (by rw [List.append_assoc]; exact slApp hsf (frOk_loop hfr hlp))
  · rintro i m σ H ⟨rfl, hile, hl, hs, S⟩
    obtain ⟨a', ws, e, h1, h2⟩ := S.list S.last (hit' _)
    cases e
    have hwl := dps_len h2.1
    by_cases hlt : i < ds.length
    · refine .inr ⟨⟨ws, ws[i]'(by omega), h1, List.getElem?_eq_getElem (by omega)⟩, _, fun σ' H' S' => ⟨ds.length - (i + 1), by omega, rfl, hlt, S'⟩, fun z H' hy => ?_⟩
      obtain ⟨T, x, rfl, hT, rfl, hx⟩ := hy
      have hdi : ds[i]? = some ds[i] := List.getElem?_eq_getElem hlt
      obtain ⟨w, hw1, hw2⟩ := dps_get h2.1 hdi
      have hwx : w = x := by
        have := hx ws h1
        rw [hw1] at this
        exact Option.some.inj this
      subst hwx
      have nd := noLs_mem hn (List.mem_of_getElem? hdi)
      have S2 := S.same (same_new (o := .tup [.int i, w]) hT)
      refine for_turn2 (i := i) (γ := γ ++ [some it]) (gs := gs ++ [some (V.ref a)]) hdi (hgx i _ hdi) (hsd i _ hdi) (frOk_loop hfr hlp) hl (by rw [← List.append_assoc, ← List.append_assoc]; exact S2)
        (.inr ⟨noL_pair rfl nd, .tup (SqT.of upd_same) (.cons (.int _) (.cons (dp_same (same_new hT) _ _ hw2) .nil))⟩) fun σ' H' hl' hs' S' => ⟨hl', hs', by rw [← List.append_assoc, ← List.append_assoc] at S'; exact S'⟩
    · have e : i = ds.length := by omega
      subst e
      exact .inl ⟨⟨ws, h1, by omega⟩, k _ _ hl hs S.pop⟩
/-- for .. in zip(xs, ys), of one length -/
theorem s_forZ {elts : List Expr} {kk : Nat} {st : Nat → Ab} {δd : Nat → PyData → Ab} (ha : A X [e, e2] δ [it, it2] δ1) (hit : view δ1 it = some (.list ds)) (hit2 : view δ1 it2 = some (.list es)) (hlen : ds.length = es.length) (hn : noLs ds = true) (hn2 : noLs es = true) (hlp : it.loop = true) (hlp2 : it2.loop = true) (hm : X.mg "zip" = none) (h0 : Le (st 0) δ1) (hsf : slFree δ1 = true) (hg : PG X (.Tuple elts kk tpos) g)
    (hgx : ∀ (i : Nat) d d', ds[i]? = some d → es[i]? = some d' → TgX X.K g js (st i) (.tuple [d, d']) (δd i d)) (hsd : ∀ i d, ds[i]? = some d → slFree (δd i d) = true) (hb : ∀ i d, ds[i]? = some d → Ss X body (δd i d) (.nx (st (i + 1)))) (hgl : Gl X "zip" := by rfl) (hs1 : starEach [e, e2] X.env = (false, eval e X.env) :: starEach [e2] X.env := by rfl) (hpl : (backTo p1 (starEach [e2] X.env)).any (·.1) = false := by rfl)
    (hp : PassesOwn (model X.prog X.w) X.A X.env X.xe := by exact PassesOwn.never) (hc : X.calm = true := by rfl) (hs : ∀ x, foldedSetIterable (.Call (.Name "zip" p) [e, e2] [] p1) X.env x = pure x := by intro _; rfl) :
    S X (.For (.Tuple elts kk tpos) (.Call (.Name "zip" p) [e, e2] [] p1) body [] pos) δ (.nx (st ds.length)) := by
  refine ps_of (ps_for hp hc (pi_zip hgl hm ha hs1 hpl) hg (pss_un rfl hb) hs) fun D σ H ⟨B, gs, γ, hl, _, hfr, S, k⟩ => ⟨B, gs, γ, hl, S, fun vs H1 hlenv S1 => ?_⟩
  obtain ⟨v, v2, ev12, S12⟩ := two_of hlenv S1
  subst ev12
  clear S1
  have S1 := S12
  have hit' : ∀ m, view m it = some (.list ds) := view_loop hlp hit
  have hit2' : ∀ m, view m it2 = some (.list es) := view_loop hlp2 hit2
  obtain ⟨a, xs, rfl, hq, hi⟩ := S1.pop.list S1.pop.last (hit' _)
  obtain ⟨b, ys, rfl, hq2, hi2⟩ := S1.list S1.last (hit2' _)
  have hq' : ∃ xs, SqL X.K H1 a xs := ⟨xs, hq⟩
  refine ⟨a, b, xs, ys, rfl, hq, hq2, ?_⟩
  have fr2 : frOk (γ ++ [some it] ++ [some it2]) = true := frOk_loop (frOk_loop hfr hlp) hlp2
  refine ⟨fun i m σ H => m = ds.length - i ∧ i ≤ ds.length ∧ σ.length = (st i).length ∧ slFree (st i) = true ∧ SR X.K B H (σ ++ gs ++ [some (V.ref a)] ++ [some (V.ref b)]) (st i ++ γ ++ [some it] ++ [some it2]), ⟨ds.length, rfl, Nat.zero_le _, (SR.len3 hl S S1.pop).trans h0.len.symm, h0.slFree hsf, ?_⟩, ?_⟩
  · exact S1.le h0.app.app.app (by rw [List.append_assoc, List.append_assoc, ← List.append_assoc γ]; exact slApp hsf fr2)
  · rintro i m σ H ⟨rfl, hile, hl, hs, S⟩
    obtain ⟨a', ws, e, h1, h2⟩ := S.pop.list S.pop.last (hit' _)
    cases e
    obtain ⟨b', zs, e, h3, h4⟩ := S.list S.last (hit2' _)
    cases e
    have hwl := dps_len h2.1
    have hzl := dps_len h4.1
    by_cases hlt : i < ds.length
    · refine .inr ⟨⟨ws, zs, ws[i]'(by omega), zs[i]'(by omega), h1, h3, List.getElem?_eq_getElem (by omega), List.getElem?_eq_getElem (by omega)⟩, _, fun σ' H' S' => ⟨ds.length - (i + 1), by omega, rfl, hlt, S'⟩, fun z H' hy => ?_⟩
      obtain ⟨T, x, y, rfl, hT, rfl, hx, hy⟩ := hy
      have hdi : ds[i]? = some ds[i] := List.getElem?_eq_getElem hlt
      have hei : es[i]? = some (es[i]'(by omega)) := List.getElem?_eq_getElem (by omega)
      obtain ⟨w, hw1, hw2⟩ := dps_get h2.1 hdi
      obtain ⟨u, hu1, hu2⟩ := dps_get h4.1 hei
      have hwx : w = x := by
        have := hx ws h1
        rw [hw1] at this
        exact Option.some.inj this
      have hux : u = y := by
        have := hy zs h3
        rw [hu1] at this
        exact Option.some.inj this
      subst hwx
      subst hux
      have nd := noLs_mem hn (List.mem_of_getElem? hdi)
      have nd2 := noLs_mem hn2 (List.mem_of_getElem? hei)
      have S2 := S.same (same_new (o := .tup [w, u]) hT)
      refine for_turn2 (i := i) (γ := γ ++ [some it] ++ [some it2]) (gs := gs ++ [some (V.ref a)] ++ [some (V.ref b)]) hdi (hgx i _ _ hdi hei) (hsd i _ hdi) fr2 hl (by simpa using S2)
        (.inr ⟨noL_pair nd nd2, .tup (SqT.of upd_same) (.cons (dp_same (same_new hT) _ _ hw2) (.cons (dp_same (same_new hT) _ _ hu2) .nil))⟩) fun σ' H' hl' hs' S' => ⟨hl', hs', by simpa using S'⟩
    · have e : i = ds.length := by omega
      subst e
      exact .inl ⟨⟨ws, zs, h1, h3, .inl (by omega)⟩, k _ _ hl hs S.pop.pop⟩
end

/-! ### a def keeps its promise -/
def dstart (N : List Str) (as : List AV) : Ab := as.map some ++ List.replicate (N.length - as.length) none
inductive ResV (δ : Ab) : AV → AV → Prop
  | dat {d : PyData} (h : noL d = true) : ResV δ (.dat d) (.dat d)
  | lst {ds : List PyData} : ResV δ (.lst none ds) (.lst none ds)
  | fz {ds : List PyData} : ResV δ (.fz ds) (.lst none ds)
  | sl {i : Nat} {ds : List PyData} (h : δ[i]? = some (some (.lst none ds))) : ResV δ (.sl i) (.lst none ds)
  | ins {C : Addr} {fs : List (Str × PyData)} : ResV δ (.ins C fs) (.ins C fs)
/-- how a body ends: with a value, or at its end -/
def EndsAs (X : Cx) (sts : List Stmt) (δ : Ab) (a : AV) (G : Ab → Prop) : Prop := (∃ a' δ', Ss X sts δ (.ret a' δ') ∧ ResV δ' a' a ∧ G δ') ∨ (a = .dat .none ∧ ∃ δ', Ss X sts δ (.nx δ') ∧ G δ')
section
variable {P : Program} {w : World} {K : PySem.W.Frag} {mg : Str → Option Value} {base : Heap} {B H H' : Hp}
theorem sr_start : ∀ {vs : List V} {as : List AV} {l : L2.St} {m : Ab}, SR K B H l m → Same B H → ArgsR K B vs as → SR K B H (l ++ vs.map some) (m ++ as.map some)
  | [], [], l, m, S, _, _ => by
    rw [List.map_nil, List.map_nil, List.append_nil, List.append_nil]
    exact S
  | v :: vs, a :: as, l, m, S, e, .cons h1 h2 => by
    rw [List.map_cons, List.map_cons, List.append_cons, List.append_cons m]
    refine sr_start (l := l ++ [some v]) (m := m ++ [some a]) ?_ e h2
    cases a with
    | dat d => exact S.pushP (a := .dat d) (.inl h1) rfl
    | ins C fs => exact S.pushP (a := .ins C fs) (rlins_same e h1) rfl
    | lst _ _ => exact h1.elim
    | fz _ => exact h1.elim
    | sl _ => exact h1.elim
    | obj _ _ _ => exact h1.elim
theorem SR.nones {l : L2.St} {m : Ab} (S : SR K B H l m) : ∀ n : Nat, SR K B H (l ++ List.replicate n none) (m ++ List.replicate n none) := fun n => by
  have at_ : ∀ {i : Nat} {a : AV}, (m ++ List.replicate n none)[i]? = some (some a) → i < m.length ∧ m[i]? = some (some a) := fun {i a} e => by
    by_cases hi : i < m.length
    · rw [List.getElem?_append_left hi] at e
      exact ⟨hi, e⟩
    · rw [List.getElem?_append_right (by omega), List.getElem?_replicate] at e
      split at e <;> cases e
  refine ⟨S.base, by rw [List.length_append, List.length_append, S.len, List.length_replicate, List.length_replicate], fun i a e => ?_, fun i j o ds a e1 e2 h3 h4 => ?_, fun j i e => ?_⟩
  · obtain ⟨hi, e⟩ := at_ e
    obtain ⟨v, h1, h2⟩ := S.rel i a e
    exact ⟨v, getq_append_left' h1, rl_old h2⟩
  · obtain ⟨hi, e1⟩ := at_ e1
    obtain ⟨hj, e2⟩ := at_ e2
    rw [List.getElem?_append_left (by rw [S.len]; exact hi), List.getElem?_append_left (by rw [S.len]; exact hj)] at h4
    exact S.dis i j o ds a e1 e2 h3 h4
  · obtain ⟨_, e⟩ := at_ e
    obtain ⟨h1, o, ds, h2⟩ := S.back j i e
    exact ⟨h1, o, ds, getq_append_left' h2⟩
theorem sr_nil (e : Same B H) : SR K B H [] [] := ⟨e, rfl, fun i a h => by simp at h, fun i j o ds a h => by simp at h, fun j i h => by simp at h⟩
theorem argsR_plain : ∀ {vs : List V} {as : List AV}, ArgsR K H vs as → slFree (as.map some) = true
  | [], [], _ => rfl
  | _ :: _, a :: as, .cons h1 h2 => by
    have z := argsR_plain h2
    unfold slFree at z ⊢
    rw [List.map_cons, List.all_cons, z]
    cases a <;> first | rfl | exact h1.elim
theorem slFree_nones (n : Nat) : slFree (List.replicate n none) = true := List.all_eq_true.mpr fun x hx => by
  rw [List.eq_of_mem_replicate hx]
theorem resR_of {l : L2.St} {m : Ab} {v : V} {a' a : AV} {Hc : Hp} (S : SR K B H (l ++ [some v]) (m ++ [some a'])) (hr : ResV m a' a) (hf : ∀ p, B p = none → v = V.ref p → (∃ ds, a = .lst none ds) → Hc p = none) : ResR K Hc H v a := by
  cases hr with
  | dat h => exact ⟨h, S.dp (a := .dat _) S.last rfl⟩
  | lst =>
    obtain ⟨p, e, _, hb, hL⟩ := S.last
    exact ⟨p, e, hf p hb e ⟨_, rfl⟩, hL⟩
  | fz =>
    obtain ⟨p, e, hb, hL⟩ := S.last
    exact ⟨p, e, hf p hb e ⟨_, rfl⟩, hL⟩
  | @sl i ds h =>
    obtain ⟨u, h1, p, e, _, hb, hL⟩ := S.rel _ _ (getq_append_left' h)
    have L : (l ++ [some v])[i]? = some (some v) := S.last
    rw [L] at h1
    cases h1
    exact ⟨p, e, hf p hb e ⟨_, rfl⟩, hL⟩
  | ins => exact ins_of S.last
/-- a def that writes nothing that stood -/
theorem pure_ok {x qual : Str} {st : Stmt} {f : Addr} {fd : FuncData} {N ps : List Str} {k : Nat} {R : List AV → AV → Prop} (F : Fun K x qual st f fd) (Sc : FnScope N ps (defScope st)) (hlen : ∀ as a, R as a → as.length = ps.length)
    (body : ∀ as a, R as a → ∀ (cdv : Value) (A : Around) (outer : List Env) (s : Shared) (H : Hp) (Ex : XK), Room k (A.deeper (envOfC qual (defScope st) s.heap.objs.size f cdv)) →
      EndsAs (cxOf CX0 P w K mg base N qual (defScope st) f cdv A outer s H Ex).nox (defBody st) (dstart N as) a fun _ => True) : FnOk P w K mg base CX0 (k + 1) f fd ps (spP K R) := by
  refine F.ok Sc (fun vs H Q Ex h => ?_) (fun cdv A outer s H vs Q Ex hr h => ?_)
  · obtain ⟨as, a, hR, hv, _⟩ := h
    exact (Paired.length hv).trans (hlen as a hR)
  · obtain ⟨as, a, hR, hv, kq⟩ := h
    have hl := Paired.length hv
    have S0 : SR K H H (L2.start N vs) (dstart N as) := by
      have z := (sr_start (sr_nil (K := K) (Same.refl H)) (Same.refl H) hv).nones (N.length - vs.length)
      rw [List.nil_append, List.nil_append] at z
      unfold L2.start dstart
      rw [← hl]
      exact z
    have sl0 : slFree (dstart N as) = true := by
      unfold dstart
      rw [slFree_app, argsR_plain hv, slFree_nones]
      rfl
    rcases body as a hR cdv A outer s H Ex hr with ⟨a', δ', hS, hres, _⟩ | ⟨ha, δ', hS, _⟩
    · refine ⟨_, hS, H, [], [], S0.len, sl0, rfl, by rw [List.append_nil, List.append_nil]; exact S0, fun σ' v H' hl' S' => ?_⟩
      rw [List.append_nil, List.append_nil] at S'
      exact kq v H' S'.base (resR_of S' hres fun p hp _ _ => hp)
    · refine ⟨_, hS, H, [], [], S0.len, sl0, rfl, by rw [List.append_nil, List.append_nil]; exact S0, fun σ' H' hl' _ S' => ?_⟩
      subst ha
      exact kq .non H' S'.base ⟨rfl, .non⟩
end
end G
end FW12
section FW13
set_option Elab.async false
set_option linter.all false
set_option maxRecDepth 100000
set_option maxHeartbeats 4000000
namespace G
open PySem PySem.Spec PyProof.Rows L2
section
variable {K : PySem.W.Frag} {B H H' : Hp} {l : L2.St} {m : Ab} {y : V} {d : PyData} {fs : List (Str × PyData)} {C p : Addr} {f : Str}
theorem putF_new : ∀ {vs : List (Str × V)} {v : V}, vs.lookup f = none → putF f v vs = vs ++ [(f, v)]
  | [], v, _ => rfl
  | (g, x) :: r, v, h => by
    by_cases hg : g = f
    · subst hg
      simp at h
    · have hb : (f == g) = false := by
        rw [beq_eq_false_iff_ne]
        exact fun e => hg e.symm
      have hr : r.lookup f = none := by
        simp only [List.lookup_cons, hb] at h
        exact h
      show (if g = f then (g, v) :: r else (g, x) :: putF f v r) = _
      rw [if_neg hg, putF_new hr]
      rfl
/-- no instance but at i -/
def oneObj (m : Ab) : Bool := m.all fun
  | some (.ins _ _) => false
  | some (.obj _ _ _) => false
  | _ => true
theorem SR.store {i : Nat} {dx : Addr} {vs : List (Str × V)} (S : SR K B H l m) (hi : m[i]? = some (some (.obj p C fs))) (ho : ∀ (j : Nat) a, j ≠ i → m[j]? = some (some a) → (∀ C fs, a ≠ .ins C fs) ∧ ∀ q C fs, a ≠ .obj q C fs) (hp : H p = some (.ins C dx vs)) (hk : vs.map (·.1) = fs.map (·.1)) (hd0 : DpAll K H (vs.map (·.2)) (fs.map (·.2)))
    (hn0 : noLs (fs.map (·.2)) = true) (hf : fs.lookup f = none) (hn : noL d = true) (hy : Dp K H y d) : SR K B (upd H p (.ins C dx (putF f y vs))) l (m.set i (some (.obj p C (fs ++ [(f, d)])))) := by
  obtain ⟨u, h1, ⟨rfl, hb⟩, hI⟩ := S.rel i _ hi
  have hlt : i < m.length := (List.getElem?_eq_some_iff.mp hi).1
  have hpf : putF f y vs = vs ++ [(f, y)] := putF_new (lookup_keys hk hf)
  have T : TSub H (upd H p (.ins C dx (putF f y vs))) := fun a xs h => by
    rcases h with h | ⟨o, h⟩
    · exact .inl (by rw [upd_ne (ne_of h hp (fun z => by cases z))]; exact h)
    · exact .inr ⟨o, by rw [upd_ne (ne_of h hp (fun z => by cases z))]; exact h⟩
  have at_ : ∀ {j : Nat} {c : AV}, (m.set i (some (.obj p C (fs ++ [(f, d)]))))[j]? = some (some c) → (j = i ∧ c = .obj p C (fs ++ [(f, d)])) ∨ (j ≠ i ∧ m[j]? = some (some c)) := fun {j c} e => by
    by_cases hji : i = j
    · subst hji
      rw [List.getElem?_set_self hlt] at e
      exact .inl ⟨rfl, (Option.some.inj (Option.some.inj e)).symm⟩
    · rw [List.getElem?_set_ne hji] at e
      exact .inr ⟨Ne.symm hji, e⟩
  have lk : ∀ {q : Addr} {es : List PyData}, LstAt K H q es → LstAt K (upd H p (.ins C dx (putF f y vs))) q es := fun {q es} ⟨n, ws, w1, w2⟩ => ⟨n, ws, by rw [upd_ne (ne_of w1 hp (fun z => by cases z))]; exact w1, dps_t T _ _ n w2⟩
  refine ⟨fun b o e => by rw [upd_ne (ne_of_none e hb)]; exact S.base _ _ e, by rw [List.length_set]; exact S.len, fun j c e => ?_, fun j k o ds c e1 e2 h3 h4 => ?_, fun j k e => ?_⟩
  · rcases at_ e with ⟨rfl, rfl⟩ | ⟨hj, e⟩
    · have n2 : noLs ((fs ++ [(f, d)]).map (·.2)) = true := by
        rw [List.map_append]
        exact noLs_app hn0 (by show (noL d && true) = true; rw [hn]; rfl)
      refine ⟨_, h1, ⟨rfl, hb⟩, n2, p, dx, _, rfl, upd_same, ?_, ?_⟩
      · rw [hpf, List.map_append, List.map_append, hk]
        rfl
      · have z : DpAll K H ((vs ++ [(f, y)]).map (·.2)) ((fs ++ [(f, d)]).map (·.2)) := by
          rw [List.map_append, List.map_append]
          exact dps_app hd0 (.cons hy .nil)
        rw [← hpf] at z
        exact dps_t T _ _ n2 z
    · obtain ⟨u, g1, g2⟩ := S.rel j c e
      refine ⟨u, g1, ?_⟩
      obtain ⟨no1, no2⟩ := ho j c hj e
      cases c with
      | dat d => exact g2.elim .inl fun h => .inr ⟨h.1, dp_t T _ _ h.1 h.2⟩
      | lst o es =>
        obtain ⟨q, a1, a2, a3, a4⟩ := g2
        exact ⟨q, a1, a2, a3, lk a4⟩
      | fz es =>
        obtain ⟨q, a1, a2, a3⟩ := g2
        exact ⟨q, a1, a2, lk a3⟩
      | sl k => exact g2
      | ins C fs => exact absurd rfl (no1 _ _)
      | obj q C fs => exact absurd rfl (no2 _ _ _)
  · rcases at_ e1 with ⟨_, q⟩ | ⟨hj, e1⟩
    · cases q
    rcases at_ e2 with ⟨_, q⟩ | ⟨hk, e2⟩
    · rw [q] at h3
      rcases h3 with ⟨_, _, z⟩ | ⟨_, z⟩ <;> cases z
    · exact S.dis j k o ds c e1 e2 h3 h4
  · rcases at_ e with ⟨_, q⟩ | ⟨_, e⟩
    · cases q
    · obtain ⟨h1, o, ds, h2⟩ := S.back j k e
      refine ⟨h1, o, ds, ?_⟩
      rw [List.getElem?_set_ne (fun z => by rw [z] at hi; rw [hi] at h2; cases h2)]
      exact h2
end
section
variable {X : Cx} {δ δ1 : Ab} {a : AV} {e o : Expr} {pos pos' p1 : Pos} {f x : Str} {d : PyData} {fs : List (Str × PyData)} {C p : Addr}
/-- self.f = e, while self is made -/
theorem s_fld (i : Nat) (he : E X e δ a δ1) (hv : view δ1 a = some d) (hn : noL d = true) (hi : δ1[i]? = some (some (.obj p C fs))) (hone : oneObj (δ1.set i none) = true) (hf : fs.lookup f = none) (hc : Cls X.K C) (hna : NoAttr X.K C f) (hlen : fs.length < 100) (hsf : slFree δ1 = true := by rfl) (hp : a.plain = true := by rfl)
    (hN : X.N[i]? = some x := by rfl) (hV : Vis X.env.scope x := by first | exact Or.inl rfl | exact Or.inr (Or.inl rfl) | exact Or.inr (Or.inr rfl)) (hd1 : (x == ("__debug__" : Str)) = false := by decide) (hd2 : (x == ("__classdict__" : Str)) = false := by decide)
    (hs : swapsWith e (some (.Attribute (.Name x p1) f pos')) pos.line X.env = pure false := by rfl) : S X (.Assign [.Attribute (.Name x p1) f pos'] e pos) δ (.nx (δ1.set i (some (.obj p C (fs ++ [(f, d)]))))) := by
  have ho : E X (.Name x p1) δ1 (.obj p C fs) δ1 := e_var i hi rfl hN hV hd1 hd2
  refine ps_of (ps_fld ho he hs) fun D σ H ⟨B, gs, γ, hl, _, hfr, S, k⟩ => ⟨B, gs, γ, hl, S, fun y H1 S1 => ?_⟩
  refine ⟨B, gs ++ [some y], γ ++ [some a], SR.len3 hl S S1, by rw [← List.append_assoc, ← List.append_assoc]; exact S1, fun v H2 S2 => ?_⟩
  rw [← List.append_assoc, ← List.append_assoc] at S2
  have PP := S2.pop.pop
  obtain ⟨⟨ev, hb⟩, n, q, dx, vs, eq, hq, hk, hd⟩ := S2.last
  rw [ev] at eq
  cases eq
  have hvl : vs.length = fs.length := by
    have := congrArg List.length hk
    simpa using this
  refine ⟨p, C, dx, vs, ev, hq, hc, hna, by omega, k _ _ (by rw [List.length_set]; exact SR.len3 hl S S1) (slFree_set hsf fun j e => by cases e) ?_⟩
  have M := PP.store (f := f) (y := y) (d := d) (getq_append_left' hi) (fun j c hj e => ?_) hq hk hd n hf hn (S2.pop.dp S2.pop.last (view_app (view_app hv)))
  · rw [set_app (List.getElem?_eq_some_iff.mp hi).1] at M
    exact M
  · by_cases hjl : j < δ1.length
    · rw [List.getElem?_append_left hjl] at e
      have z := List.all_eq_true.mp hone (some c) (List.mem_of_getElem? (i := j) (by rw [List.getElem?_set_ne (Ne.symm hj)]; exact e))
      refine ⟨fun C fs q => ?_, fun q' C fs q => ?_⟩ <;> (subst q; cases z)
    · rw [List.getElem?_append_right (by omega)] at e
      have z := List.all_eq_true.mp hfr _ (List.mem_of_getElem? e)
      refine ⟨fun C fs q => ?_, fun q' C fs q => ?_⟩ <;> (subst q; cases z)
/-- self.f, while self is made -/
theorem e_fldO (h : E X o δ (.obj p C fs) δ1) (hc : Cls X.K C) (hn : NoAttr X.K C f) (hl : fs.lookup f = some d) (hb : attributeBase o f X.env (eval o X.env) = eval o X.env := by rfl) : E X (.Attribute o f pos) δ (.dat d) δ1 :=
  pe_of (pe_fld h hb) fun σ H Q ⟨B, gs, γ, hlen, S0, kk⟩ => ⟨B, gs, γ, hlen, S0, fun v H1 S1 => by
    obtain ⟨_, n, q, dx, vs, ev, hq, hk, hd⟩ := S1.last
    obtain ⟨u, hu, hdu⟩ := lookup_dp hk hd hl
    exact ⟨q, C, dx, vs, u, ev, hq, hc, hn, hu, kk _ _ (S1.pop.pushP (a := .dat d) (.inr ⟨lookup_noL n hl, hdu⟩) rfl)⟩⟩
end
section
variable {P : Program} {w : World} {K : PySem.W.Frag} {mg : Str → Option Value} {base : Heap} {B H H' : Hp}
def dstartF (N : List Str) (p0 : Addr) (fd : List PyData) (as : List AV) : Ab := some (.lst (some p0) fd) :: (as.map some ++ List.replicate (N.length - (as.length + 1)) none)
/-- a def that writes the list it is given first -/
theorem feed_ok {x qual : Str} {st : Stmt} {f : Addr} {fd : FuncData} {N ps : List Str} {k : Nat} {R : List PyData → List AV → AV → List PyData → Prop} (F : Fun K x qual st f fd) (Sc : FnScope N ps (defScope st)) (hlen : ∀ fe as a fe', R fe as a fe' → as.length + 1 = ps.length)
    (body : ∀ fe as a fe', R fe as a fe' → ∀ (p0 : Addr) (cdv : Value) (A : Around) (outer : List Env) (s : Shared) (H : Hp) (Ex : XK), Room k (A.deeper (envOfC qual (defScope st) s.heap.objs.size f cdv)) →
      EndsAs (cxOf CX0 P w K mg base N qual (defScope st) f cdv A outer s H Ex).nox (defBody st) (dstartF N p0 fe as) a fun δ' => δ'[0]? = some (some (.lst (some p0) fe'))) : FnOk P w K mg base CX0 (k + 1) f fd ps (spF K R) := by
  refine F.ok Sc (fun vs H Q Ex h => ?_) (fun cdv A outer s H vs Q Ex hr h => ?_)
  · obtain ⟨p, vs', as, a, fe, fe', rfl, _, hR, hv, _⟩ := h
    rw [List.length_cons, Paired.length hv]
    exact hlen fe as a fe' hR
  · obtain ⟨p, vs', as, a, fe, fe', rfl, hL, hR, hv, kq⟩ := h
    have hl := Paired.length hv
    have S00 : SR K (hide p H) H [some (.ref p)] [some (.lst (some p) fe)] := by
      have z := (sr_nil (K := K) (hide_same (p := p) (H := H))).push (v := .ref p) (a := .lst (some p) fe) ⟨p, rfl, fun q e => Option.some.inj e, hide_at, hL⟩ (fun o ds _ i hi => by
        obtain ⟨o', ds', hi | hi⟩ := hi <;> simp at hi) (fun ds e => by cases e)
      exact z
    have S0 : SR K (hide p H) H (L2.start N (.ref p :: vs')) (dstartF N p fe as) := by
      have z := (sr_start S00 hide_same hv).nones (N.length - (vs'.length + 1))
      unfold L2.start dstartF
      rw [← hl]
      rw [List.map_cons, List.length_cons]
      rw [List.append_assoc, List.append_assoc] at z
      exact z
    have sl0 : slFree (dstartF N p fe as) = true := by
      unfold dstartF
      show slFree ([some (.lst (some p) fe)] ++ (as.map some ++ List.replicate (N.length - (as.length + 1)) none)) = true
      rw [slFree_app, slFree_app, argsR_plain hv, slFree_nones]
      rfl
    have fin : ∀ {σ' : L2.St} {δ' : Ab} {v : V} {H' : Hp}, SR K (hide p H) H' σ' δ' → δ'[0]? = some (some (.lst (some p) fe')) → Same (hide p H) (hide p H') ∧ LstAt K H' p fe' ∧ σ'[0]? = some (some (.ref p)) := fun {σ' δ' v H'} S h0 => by
      obtain ⟨u, h1, q, eu, hq, _, hL'⟩ := S.rel 0 _ h0
      have e : q = p := hq p rfl
      subst e
      subst eu
      exact ⟨hide_base S.base hide_at, hL', h1⟩
    rcases body fe as a fe' hR p cdv A outer s H Ex hr with ⟨a', δ', hS, hres, h0⟩ | ⟨ha, δ', hS, h0⟩
    · refine ⟨_, hS, hide p H, [], [], S0.len, sl0, rfl, by rw [List.append_nil, List.append_nil]; exact S0, fun σ' v H' hl' S' => ?_⟩
      rw [List.append_nil, List.append_nil] at S'
      obtain ⟨g1, g2, g3⟩ := fin (v := v) S'.pop h0
      refine kq v H' g1 g2 (resR_of S' hres fun q hq ev hlst => ?_)
      by_cases hqp : q = p
      · exfalso
        subst hqp
        obtain ⟨ds, ea⟩ := hlst
        subst ea
        have h00 : (δ' ++ [some a'])[0]? = some (some (.lst (some q) fe')) := getq_append_left' h0
        have g30 : (σ' ++ [some v])[0]? = some (some (.ref q)) := getq_append_left' g3
        have endm : (δ' ++ [some a'])[δ'.length]? = some (some a') := by rw [List.getElem?_append_right (Nat.le_refl _), Nat.sub_self]; rfl
        have endl : (σ' ++ [some v])[δ'.length]? = some (some v) := by rw [← hl', List.getElem?_append_right (Nat.le_refl _), Nat.sub_self]; rfl
        have pos0 : 0 < δ'.length := (List.getElem?_eq_some_iff.mp h0).1
        cases hres with
        | lst =>
          have z := S'.dis 0 δ'.length _ _ _ h00 endm (.inl ⟨_, _, rfl⟩) (by rw [g30, endl, ev])
          omega
        | fz =>
          have z := S'.dis 0 δ'.length _ _ _ h00 endm (.inr ⟨_, rfl⟩) (by rw [g30, endl, ev])
          omega
        | @sl i ds h =>
          have L : (σ' ++ [some v])[i]? = some (some v) := S'.last
          have z := S'.dis 0 i _ _ _ h00 (getq_append_left' h) (.inl ⟨_, _, rfl⟩) (by rw [g30, L, ev])
          subst z
          rw [h0] at h
          cases h
      · rw [hide_ne hqp] at hq
        exact hq
    · refine ⟨_, hS, hide p H, [], [], S0.len, sl0, rfl, by rw [List.append_nil, List.append_nil]; exact S0, fun σ' H' hl' _ S' => ?_⟩
      subst ha
      rw [List.append_nil, List.append_nil] at S'
      obtain ⟨g1, g2, g3⟩ := fin (v := .non) S' h0
      exact kq .non H' g1 g2 ⟨rfl, .non⟩
def dstartI (N : List Str) (p C : Addr) (as : List AV) : Ab := some (.obj p C []) :: (as.map some ++ List.replicate (N.length - (as.length + 1)) none)
/-- an __init__ -/
theorem init_ok {x qual : Str} {st : Stmt} {f C : Addr} {fd : FuncData} {N ps : List Str} {k : Nat} {R : List AV → List (Str × PyData) → Prop} (F : Fun K x qual st f fd) (Sc : FnScope N ps (defScope st)) (hlen : ∀ as fs, R as fs → as.length + 1 = ps.length)
    (body : ∀ as fs, R as fs → ∀ (p : Addr) (cdv : Value) (A : Around) (outer : List Env) (s : Shared) (H : Hp) (Ex : XK), Room k (A.deeper (envOfC qual (defScope st) s.heap.objs.size f cdv)) →
      ∃ δ', Ss (cxOf CX0 P w K mg base N qual (defScope st) f cdv A outer s H Ex).nox (defBody st) (dstartI N p C as) (.nx δ') ∧ δ'[0]? = some (some (.obj p C fs))) : FnOk P w K mg base CX0 (k + 1) f fd ps (spI K C R) := by
  refine F.ok Sc (fun vs H Q Ex h => ?_) (fun cdv A outer s H vs Q Ex hr h => ?_)
  · obtain ⟨y, dx, vs', as, fs, H0, rfl, _, _, _, hR, hv, _⟩ := h
    rw [List.length_cons, Paired.length hv]
    exact hlen as fs hR
  · obtain ⟨p, dx, vs', as, fs, H0, rfl, hs, hp0, hp, hR, hv, kq⟩ := h
    have hl := Paired.length hv
    have S00 : SR K H0 H [some (.ref p)] [some (.obj p C [])] := by
      have z := (sr_nil (K := K) hs).pushP (v := .ref p) (a := .obj p C []) ⟨⟨rfl, hp0⟩, rfl, p, dx, [], rfl, hp, rfl, .nil⟩ rfl
      exact z
    have S0 : SR K H0 H (L2.start N (.ref p :: vs')) (dstartI N p C as) := by
      have z := (sr_start S00 hs hv).nones (N.length - (vs'.length + 1))
      unfold L2.start dstartI
      rw [← hl]
      rw [List.map_cons, List.length_cons]
      rw [List.append_assoc, List.append_assoc] at z
      exact z
    have sl0 : slFree (dstartI N p C as) = true := by
      unfold dstartI
      show slFree ([some (.obj p C [])] ++ (as.map some ++ List.replicate (N.length - (as.length + 1)) none)) = true
      rw [slFree_app, slFree_app, argsR_plain hv, slFree_nones]
      rfl
    obtain ⟨δ', hS, h0⟩ := body as fs hR p cdv A outer s H Ex hr
    refine ⟨_, hS, H0, [], [], S0.len, sl0, rfl, by rw [List.append_nil, List.append_nil]; exact S0, fun σ' H' hl' _ S' => ?_⟩
    rw [List.append_nil, List.append_nil] at S'
    obtain ⟨u, h1, ⟨rfl, _⟩, hI⟩ := S'.rel 0 _ h0
    exact kq H' S'.base hI
end
end G
end FW13
section FW14
set_option Elab.async false
set_option linter.all false
set_option maxRecDepth 100000
set_option maxHeartbeats 4000000
namespace G
open PySem L2
theorem map_at {α : Type} {f : α → PyData} {xs : List α} {i : Nat} {d : PyData} (h : (xs.map f)[i]? = some d) : ∃ x, xs[i]? = some x ∧ d = f x := by
  rw [List.getElem?_map, Option.map_eq_some_iff] at h
  obtain ⟨x, h1, h2⟩ := h
  exact ⟨x, h1, h2.symm⟩
theorem map_atO {α : Type} {f : α → Option PyData} {xs : List α} {i : Nat} {x : α} {o : Option PyData} (h : (xs.map f)[i]? = some o) (hx : xs[i]? = some x) : f x = o := by
  rw [List.getElem?_map, hx] at h
  exact Option.some.inj h
theorem fm_some {α : Type} {f : α → PyData} : ∀ {xs : List α}, (xs.map fun x => some (f x)).filterMap id = xs.map f
  | [] => rfl
  | x :: xs => by
    have := fm_some (f := f) (xs := xs)
    simp only [List.map_cons, List.filterMap_cons, id_eq, this]
theorem fm_if {α : Type} {f : α → PyData} {c : α → Bool} : ∀ {xs : List α}, (xs.map fun x => if c x = true then some (f x) else none).filterMap id = (xs.filter c).map f
  | [] => rfl
  | x :: xs => by
    have := fm_if (f := f) (c := c) (xs := xs)
    cases h : c x with
    | true => simp only [List.map_cons, h, if_true, List.filterMap_cons, id_eq, this, List.filter_cons, List.map_cons]
    | false =>
      simp only [List.map_cons, h, List.filterMap_cons, id_eq, List.filter_cons]
      exact this
theorem if_some {β : Type} {b : Bool} {y z : β} (h : (if b = true then some y else none) = some z) : b = true ∧ y = z := by
  cases b with
  | true => exact ⟨rfl, Option.some.inj h⟩
  | false => cases h
theorem isSome_if {β : Type} {b : Bool} {y : β} : (if b = true then some y else none).isSome = b := by
  cases b <;> rfl
/-- an item of a tuple -/
def tat (d : PyData) (i : Nat) : PyData := match d with
  | .tuple ds => ds.getD i .none
  | _ => .none
section
variable {α : Type} {X : Cx} {δ δ1 : Ab} {it : AV} {elt tg iter c0 : Expr} {pos : Pos} {scope : Scope} {own : List (Str × Nat)} {g : TG} {js : List Nat} {gg f : α → PyData} {xs : List α} {δd : α → Ab} {c : α → Bool}
/-- the slots at a turn, told by the item -/
def dOf (xs : List α) (δd : α → Ab) (i : Nat) : Ab := match xs[i]? with
  | some y => δd y
  | none => []
theorem dOf_eq {i : Nat} {y : α} (h : xs[i]? = some y) : dOf xs δd i = δd y := by
  unfold dOf
  rw [h]
theorem tt_yes {K : PySem.W.Frag} {δ' : Ab} {σ : L2.St} {H : Hp} {Q : Bool → Hp → Prop} (h : tT K δ' true δ' σ H Q) : tYes σ H Q := by
  obtain ⟨B, gs, γ, hl, S, k⟩ := h
  exact k H S
theorem pts_un {X : Cx} {xs : List α} {δd : α → Ab} {c : α → Bool} (h : ∀ y, y ∈ xs → T X c0 (δd y) (c y) (δd y)) : PTs X [c0] (fun σ H Q => ∃ y, y ∈ xs ∧ tT X.K (δd y) (c y) (δd y) σ H Q) :=
  pts_one ⟨fun pins st σ H Q I ⟨y, hy, q⟩ => (h y hy).run pins st σ H Q I q⟩
section
variable (hN : X.N.Nodup) (hi : E X iter δ it δ1)  (ok : BlkOk X.N X.env.scope scope own) (hjs : own.map (·.2) = js) (hjn : ∀ j ∈ js, δ1[j]? = some none) (hg : ∀ (s : Shared) (H : Hp) (C : Addr) (cl : List (Str × Addr)) (fp : List Addr), PG (X.blk s H scope (compEnvC scope cl C X.env) fp) tg g) (hgx : ∀ y, y ∈ xs → TgX X.K g js δ1 (gg y) (δd y)) (hup : ∀ y, y ∈ xs → Ups δ1 (δd y))
  (hT : ∀ y, y ∈ xs → ∀ (s : Shared) (H : Hp) (C : Addr) (cl : List (Str × Addr)) (fp : List Addr), T (X.blk s H scope (compEnvC scope cl C X.env) fp) c0 (δd y) (c y) (δd y))
  (he : ∀ y, y ∈ xs → ∀ (s : Shared) (H : Hp) (C : Addr) (cl : List (Str × Addr)) (fp : List Addr), E (X.blk s H scope (compEnvC scope cl C X.env) fp) elt (δd y) (.dat (f y)) (δd y)) (heC : ∀ y, y ∈ xs → c y = true → ∀ (s : Shared) (H : Hp) (C : Addr) (cl : List (Str × Addr)) (fp : List Addr), E (X.blk s H scope (compEnvC scope cl C X.env) fp) elt (δd y) (.dat (f y)) (δd y)) (hf : ∀ y, noL (f y) = true) (hlen : xs.length < 100000)
include hN hi ok hjs hjn hg hgx hup hf hlen
include he in
theorem l_mapL (hit : view δ1 it = some (.list (xs.map gg))) (hc : X.calm = true := by rfl) (hs : ∀ x, foldedSetIterable iter X.env x = pure x := by intro _; rfl) : EL X (.ListComp elt [⟨tg, iter, [], 0⟩] scope pos) δ (.lst none (xs.map f)) δ1 := by
  refine EL.cast (l_lcL (xs.map fun y => some (f y)) (δd := fun i _ => dOf xs δd i) (tt := tYes) (js := js) hc hN hi hit ok hjs hjn hg (by simp) (fun i d h => ?_) (fun i d h => ?_) (fun s H C cl fp => pts_nil) (fun i d o h ho σ H Q q => ?_) (fun i d y h ho s H C cl fp => ?_) (fun i d y h ho => ?_) (by simpa using hlen) hs) (by rw [fm_some])
  all_goals
    obtain ⟨z, hz, rfl⟩ := map_at h
    have hz2 := List.mem_of_getElem? hz
    try simp only [dOf_eq hz] at *
  · exact hgx z hz2
  · exact hup z hz2
  · obtain rfl := map_atO ho hz
    exact tt_yes q
  · have e := map_atO ho hz
    cases e
    exact he z hz2 s H C cl fp
  · have e := map_atO ho hz
    cases e
    exact hf z
include he in
theorem e_mapL (hit : view δ1 it = some (.list (xs.map gg))) (hc : X.calm = true := by rfl) (hs : ∀ x, foldedSetIterable iter X.env x = pure x := by intro _; rfl) : E X (.ListComp elt [⟨tg, iter, [], 0⟩] scope pos) δ (.lst none (xs.map f)) δ1 :=
  (l_mapL (δd := δd) hN hi ok hjs hjn hg hgx hup he hf hlen hit hc hs).e
include he in
theorem l_mapT (hit : view δ1 it = some (.tuple (xs.map gg))) (hc : X.calm = true := by rfl) (hs : ∀ x, foldedSetIterable iter X.env x = pure x := by intro _; rfl) : EL X (.ListComp elt [⟨tg, iter, [], 0⟩] scope pos) δ (.lst none (xs.map f)) δ1 := by
  refine EL.cast (l_lcT (xs.map fun y => some (f y)) (δd := fun i _ => dOf xs δd i) (tt := tYes) (js := js) hc hN hi hit ok hjs hjn hg (by simp) (fun i d h => ?_) (fun i d h => ?_) (fun s H C cl fp => pts_nil) (fun i d o h ho σ H Q q => ?_) (fun i d y h ho s H C cl fp => ?_) (fun i d y h ho => ?_) (by simpa using hlen) hs) (by rw [fm_some])
  all_goals
    obtain ⟨z, hz, rfl⟩ := map_at h
    have hz2 := List.mem_of_getElem? hz
    try simp only [dOf_eq hz] at *
  · exact hgx z hz2
  · exact hup z hz2
  · obtain rfl := map_atO ho hz
    exact tt_yes q
  · have e := map_atO ho hz
    cases e
    exact he z hz2 s H C cl fp
  · have e := map_atO ho hz
    cases e
    exact hf z
include he in
theorem e_mapT (hit : view δ1 it = some (.tuple (xs.map gg))) (hc : X.calm = true := by rfl) (hs : ∀ x, foldedSetIterable iter X.env x = pure x := by intro _; rfl) : E X (.ListComp elt [⟨tg, iter, [], 0⟩] scope pos) δ (.lst none (xs.map f)) δ1 :=
  (l_mapT (δd := δd) hN hi ok hjs hjn hg hgx hup he hf hlen hit hc hs).e
include hT heC in
theorem l_filL (hit : view δ1 it = some (.list (xs.map gg))) (hc : X.calm = true := by rfl) (hs : ∀ x, foldedSetIterable iter X.env x = pure x := by intro _; rfl) : EL X (.ListComp elt [⟨tg, iter, [c0], 0⟩] scope pos) δ (.lst none ((xs.filter c).map f)) δ1 := by
  refine EL.cast (l_lcL (xs.map fun y => if c y = true then some (f y) else none) (δd := fun i _ => dOf xs δd i) (tt := fun σ H Q => ∃ y, y ∈ xs ∧ tT X.K (δd y) (c y) (δd y) σ H Q) (js := js) hc hN hi hit ok hjs hjn hg (by simp) (fun i d h => ?_) (fun i d h => ?_) (fun s H C cl fp => pts_un (c := c) (δd := δd) fun y hy => hT y hy s H C cl fp) (fun i d o h ho σ H Q q => ?_) (fun i d y h ho s H C cl fp => ?_) (fun i d y h ho => ?_) (by simpa using hlen) hs) (by rw [fm_if])
  all_goals
    obtain ⟨z, hz, rfl⟩ := map_at h
    have hz2 := List.mem_of_getElem? hz
    try simp only [dOf_eq hz] at *
  · exact hgx z hz2
  · exact hup z hz2
  · obtain rfl := map_atO ho hz
    rw [isSome_if] at q
    exact ⟨z, hz2, q⟩
  · have e0 := map_atO ho hz
    obtain ⟨e1, rfl⟩ := if_some e0
    exact heC z hz2 e1 s H C cl fp
  · have e0 := map_atO ho hz
    obtain ⟨e1, rfl⟩ := if_some e0
    exact hf z
include hT heC in
theorem e_filL (hit : view δ1 it = some (.list (xs.map gg))) (hc : X.calm = true := by rfl) (hs : ∀ x, foldedSetIterable iter X.env x = pure x := by intro _; rfl) : E X (.ListComp elt [⟨tg, iter, [c0], 0⟩] scope pos) δ (.lst none ((xs.filter c).map f)) δ1 :=
  (l_filL (δd := δd) hN hi ok hjs hjn hg hgx hup hT heC hf hlen hit hc hs).e
include hT heC in
theorem l_filT (hit : view δ1 it = some (.tuple (xs.map gg))) (hc : X.calm = true := by rfl) (hs : ∀ x, foldedSetIterable iter X.env x = pure x := by intro _; rfl) : EL X (.ListComp elt [⟨tg, iter, [c0], 0⟩] scope pos) δ (.lst none ((xs.filter c).map f)) δ1 := by
  refine EL.cast (l_lcT (xs.map fun y => if c y = true then some (f y) else none) (δd := fun i _ => dOf xs δd i) (tt := fun σ H Q => ∃ y, y ∈ xs ∧ tT X.K (δd y) (c y) (δd y) σ H Q) (js := js) hc hN hi hit ok hjs hjn hg (by simp) (fun i d h => ?_) (fun i d h => ?_) (fun s H C cl fp => pts_un (c := c) (δd := δd) fun y hy => hT y hy s H C cl fp) (fun i d o h ho σ H Q q => ?_) (fun i d y h ho s H C cl fp => ?_) (fun i d y h ho => ?_) (by simpa using hlen) hs) (by rw [fm_if])
  all_goals
    obtain ⟨z, hz, rfl⟩ := map_at h
    have hz2 := List.mem_of_getElem? hz
    try simp only [dOf_eq hz] at *
  · exact hgx z hz2
  · exact hup z hz2
  · obtain rfl := map_atO ho hz
    rw [isSome_if] at q
    exact ⟨z, hz2, q⟩
  · have e0 := map_atO ho hz
    obtain ⟨e1, rfl⟩ := if_some e0
    exact heC z hz2 e1 s H C cl fp
  · have e0 := map_atO ho hz
    obtain ⟨e1, rfl⟩ := if_some e0
    exact hf z
include hT heC in
theorem e_filT (hit : view δ1 it = some (.tuple (xs.map gg))) (hc : X.calm = true := by rfl) (hs : ∀ x, foldedSetIterable iter X.env x = pure x := by intro _; rfl) : E X (.ListComp elt [⟨tg, iter, [c0], 0⟩] scope pos) δ (.lst none ((xs.filter c).map f)) δ1 :=
  (l_filT (δd := δd) hN hi ok hjs hjn hg hgx hup hT heC hf hlen hit hc hs).e
end
theorem jn1 {δ1 : Ab} {j : Nat} (h : δ1[j]? = some none) : ∀ i ∈ [j], δ1[i]? = some none := fun i hi => by
  obtain rfl := List.mem_singleton.mp hi
  exact h
theorem jn2 {δ1 : Ab} {j k : Nat} (h : δ1[j]? = some none) (h2 : δ1[k]? = some none) : ∀ i ∈ [j, k], δ1[i]? = some none := fun i hi => by
  simp only [List.mem_cons, List.not_mem_nil, or_false] at hi
  rcases hi with rfl | rfl
  · exact h
  · exact h2
theorem jn3 {δ1 : Ab} {j k l : Nat} (h : δ1[j]? = some none) (h2 : δ1[k]? = some none) (h3 : δ1[l]? = some none) : ∀ i ∈ [j, k, l], δ1[i]? = some none := fun i hi => by
  simp only [List.mem_cons, List.not_mem_nil, or_false] at hi
  rcases hi with rfl | rfl | rfl
  · exact h
  · exact h2
  · exact h3
end
end G
end FW14
section RT1
set_option linter.all false
/-! numbers: plain facts -/
namespace G
def exd (t b : Int) : Int := if 0 < b then (Int.gcd t b : Int) else -(Int.gcd t b : Int)
theorem exd_ne {t b : Int} (h : b ≠ 0) : exd t b ≠ 0 := by
  unfold exd
  have : Int.gcd t b ≠ 0 := fun e => h (Int.gcd_eq_zero_iff.mp e).2
  split <;> omega
theorem exd_abs {t b : Int} (h : b ≠ 0) : (exd t b).natAbs ≤ b.natAbs := by
  have h1 : (exd t b).natAbs = Int.gcd t b := by
    unfold exd
    split <;> simp
  rw [h1]
  exact Nat.le_of_dvd (Int.natAbs_pos.mpr h) (Nat.gcd_dvd_right _ _)
theorem fdiv_neg_of {x g k : Int} (hg : 0 < g) (h : x = g * k) : x.fdiv (-g) = -k := by
  rw [h, show g * k = (-g) * (-k) by rw [Int.neg_mul_neg], Int.mul_fdiv_cancel_left _ (by omega)]
theorem exact_num (t b : Int) (h : b ≠ 0) : t.fdiv (exd t b) = (Rat.divInt t b).num := by
  rw [Rat.num_divInt, Int.gcd_comm b t]
  have hg : (0 : Int) < Int.gcd t b := by
    have : Int.gcd t b ≠ 0 := fun e => h (Int.gcd_eq_zero_iff.mp e).2
    omega
  obtain ⟨k, hk⟩ := Int.gcd_dvd_left (a := t) (b := b)
  unfold exd
  by_cases hb : 0 < b
  · rw [if_pos hb, Int.sign_eq_one_of_pos hb, Int.one_mul, Int.fdiv_eq_ediv_of_nonneg _ (by omega)]
  · rw [if_neg hb, fdiv_neg_of hg hk, Int.sign_eq_neg_one_of_neg (by omega)]
    have e : -1 * t = (Int.gcd t b : Int) * (-k) := by rw [Int.mul_neg, ← hk]; omega
    rw [e, Int.mul_ediv_cancel_left _ (by omega)]
theorem exact_den (t b : Int) (h : b ≠ 0) : b.fdiv (exd t b) = ((Rat.divInt t b).den : Int) := by
  rw [Rat.den_divInt, if_neg h, Int.gcd_comm b t]
  have hg : (0 : Int) < Int.gcd t b := by
    have : Int.gcd t b ≠ 0 := fun e => h (Int.gcd_eq_zero_iff.mp e).2
    omega
  obtain ⟨k, hk⟩ := Int.gcd_dvd_right (a := t) (b := b)
  have hk2 : b.natAbs / Int.gcd t b = k.natAbs := by
    have : b.natAbs = Int.gcd t b * k.natAbs := by
      conv => lhs; rw [hk]
      rw [Int.natAbs_mul]
      simp
    rw [this, Nat.mul_div_cancel_left _ (by omega)]
  rw [hk2]
  unfold exd
  by_cases hb : 0 < b
  · rw [if_pos hb, Int.fdiv_eq_ediv_of_nonneg _ (by omega)]
    have : 0 < k := by
      have h2 : 0 < (Int.gcd t b : Int) * k := by rw [← hk]; exact hb
      exact Int.pos_of_mul_pos_right h2 (by omega) |> fun x => x
    conv => lhs; lhs; rw [hk]
    rw [Int.mul_ediv_cancel_left _ (by omega)]
    omega
  · rw [if_neg hb, fdiv_neg_of hg hk]
    have : k < 0 := by
      apply Int.not_le.mp
      intro hk0
      have h2 : 0 ≤ (Int.gcd t b : Int) * k := Int.mul_nonneg (by omega) hk0
      rw [← hk] at h2
      omega
    omega
theorem rat_add (p q : Rat) : Rat.divInt (p.num * q.den + q.num * p.den) (p.den * q.den) = p + q := by
  rw [Rat.add_def']
  exact Rat.divInt_ofNat _ (p.den * q.den)
theorem rat_mul (p q : Rat) : Rat.divInt (p.num * q.num) (p.den * q.den) = p * q := by
  rw [Rat.mul_def']
  exact Rat.divInt_ofNat _ (p.den * q.den)
theorem rat_sub (p q : Rat) : Rat.divInt (p.num * q.den - q.num * p.den) (p.den * q.den) = p - q := by
  rw [Rat.sub_def']
  exact Rat.divInt_ofNat _ (p.den * q.den)
theorem rat_div (p q : Rat) : Rat.divInt (p.num * q.den) (p.den * q.num) = p / q := by
  rw [Rat.div_def, Rat.inv_def]
  conv => rhs; lhs; rw [← Rat.num_divInt_den p]
  rw [Rat.divInt_mul_divInt]
/-- small enough to be reckoned with -/
def Sm (q : Rat) : Prop := q.num.natAbs < 2 ^ 200000 ∧ q.den < 2 ^ 4000
/-- small -/
def Sq (q : Rat) : Prop := q.num.natAbs < 2 ^ 1000 ∧ q.den < 2 ^ 100
theorem pow_le {m n : Nat} (h : m ≤ n) : (2 : Nat) ^ m ≤ 2 ^ n := Nat.pow_le_pow_right (by decide) h
theorem Sq.sm {q : Rat} (h : Sq q) : Sm q := ⟨Nat.lt_of_lt_of_le h.1 (pow_le (by decide)), Nat.lt_of_lt_of_le h.2 (pow_le (by decide))⟩
/-- by bits -/
def Bd (n d : Nat) (q : Rat) : Prop := q.num.natAbs < 2 ^ n ∧ q.den < 2 ^ d
theorem Bd.sm {n d : Nat} {q : Rat} (h : Bd n d q) (hn : n ≤ 200000) (hd : d ≤ 4000) : Sm q := ⟨Nat.lt_of_lt_of_le h.1 (pow_le hn), Nat.lt_of_lt_of_le h.2 (pow_le hd)⟩
theorem Sq.bd {q : Rat} (h : Sq q) : Bd 1000 100 q := h
theorem lt_pow_mul {a b m n : Nat} (ha : a < 2 ^ m) (hb : b < 2 ^ n) : a * b < 2 ^ (m + n) := by
  rw [Nat.pow_add]
  exact Nat.mul_lt_mul'' ha hb
theorem divInt_num_le {t b : Int} (h : b ≠ 0) : (Rat.divInt t b).num.natAbs ≤ t.natAbs := by
  rw [← exact_num t b h]
  obtain ⟨k, hk⟩ := Int.gcd_dvd_left (a := t) (b := b)
  have hg : (0 : Int) < Int.gcd t b := by
    have : Int.gcd t b ≠ 0 := fun e => h (Int.gcd_eq_zero_iff.mp e).2
    omega
  have ht : t.natAbs = Int.gcd t b * k.natAbs := by
    conv => lhs; rw [hk]
    rw [Int.natAbs_mul]
    simp
  have hle : k.natAbs ≤ t.natAbs := by
    rw [ht]
    exact Nat.le_mul_of_pos_left _ (by omega)
  unfold exd
  split
  · rw [Int.fdiv_eq_ediv_of_nonneg _ (by omega)]
    conv => lhs; arg 1; lhs; rw [hk]
    rw [Int.mul_ediv_cancel_left _ (by omega)]
    exact hle
  · rw [fdiv_neg_of hg hk]
    omega
theorem divInt_den_le {t b : Int} (h : b ≠ 0) : (Rat.divInt t b).den ≤ b.natAbs := by
  rw [Rat.den_divInt, if_neg h]
  exact Nat.div_le_self _ _
theorem den_ne (q : Rat) : (q.den : Int) ≠ 0 := by
  have := q.den_pos
  omega
theorem Bd.add {n d n' d' : Nat} {p q : Rat} (h : Bd n d p) (h' : Bd n' d' q) : Bd (n + n' + d + d' + 1) (d + d') (p + q) := by
  rw [← rat_add]
  have hne : ((p.den : Int) * q.den) ≠ 0 := Int.mul_ne_zero (den_ne p) (den_ne q)
  refine ⟨Nat.lt_of_le_of_lt (divInt_num_le hne) ?_, Nat.lt_of_le_of_lt (divInt_den_le hne) ?_⟩
  · refine Nat.lt_of_le_of_lt (Int.natAbs_add_le _ _) ?_
    rw [Int.natAbs_mul, Int.natAbs_mul, Int.natAbs_natCast, Int.natAbs_natCast]
    have h1 := lt_pow_mul h.1 h'.2
    have h2 := lt_pow_mul h'.1 h.2
    have h3 : 2 ^ (n + d') ≤ 2 ^ (n + n' + d + d') := pow_le (by omega)
    have h4 : 2 ^ (n' + d) ≤ 2 ^ (n + n' + d + d') := pow_le (by omega)
    rw [Nat.pow_succ]
    omega
  · rw [Int.natAbs_mul, Int.natAbs_natCast, Int.natAbs_natCast]
    exact lt_pow_mul h.2 h'.2
theorem Bd.neg {n d : Nat} {q : Rat} (h : Bd n d q) : Bd n d (-q) := by
  refine ⟨?_, h.2⟩
  rw [Rat.neg_num, Int.natAbs_neg]
  exact h.1
theorem Bd.sub {n d n' d' : Nat} {p q : Rat} (h : Bd n d p) (h' : Bd n' d' q) : Bd (n + n' + d + d' + 1) (d + d') (p - q) := by
  rw [Rat.sub_eq_add_neg]
  exact h.add h'.neg
theorem Bd.mul {n d n' d' : Nat} {p q : Rat} (h : Bd n d p) (h' : Bd n' d' q) : Bd (n + n') (d + d') (p * q) := by
  rw [← rat_mul]
  have hne : ((p.den : Int) * q.den) ≠ 0 := Int.mul_ne_zero (den_ne p) (den_ne q)
  refine ⟨Nat.lt_of_le_of_lt (divInt_num_le hne) ?_, Nat.lt_of_le_of_lt (divInt_den_le hne) ?_⟩
  · rw [Int.natAbs_mul]
    exact lt_pow_mul h.1 h'.1
  · rw [Int.natAbs_mul, Int.natAbs_natCast, Int.natAbs_natCast]
    exact lt_pow_mul h.2 h'.2
theorem num_ne {q : Rat} (h : q ≠ 0) : q.num ≠ 0 := fun e => h (Rat.num_eq_zero.mp e)
theorem Bd.div {n d n' d' : Nat} {p q : Rat} (h : Bd n d p) (h' : Bd n' d' q) (hq : q ≠ 0) : Bd (n + d') (d + n') (p / q) := by
  rw [← rat_div]
  have hne : ((p.den : Int) * q.num) ≠ 0 := Int.mul_ne_zero (den_ne p) (num_ne hq)
  refine ⟨Nat.lt_of_le_of_lt (divInt_num_le hne) ?_, Nat.lt_of_le_of_lt (divInt_den_le hne) ?_⟩
  · rw [Int.natAbs_mul, Int.natAbs_natCast]
    exact lt_pow_mul h.1 h'.2
  · rw [Int.natAbs_mul, Int.natAbs_natCast]
    exact lt_pow_mul h.2 h'.1
theorem Bd.mono {n d n' d' : Nat} {q : Rat} (h : Bd n d q) (hn : n ≤ n') (hd : d ≤ d') : Bd n' d' q := ⟨Nat.lt_of_lt_of_le h.1 (pow_le hn), Nat.lt_of_lt_of_le h.2 (pow_le hd)⟩
theorem lt_num (p q : Rat) : decide (p.num * q.den < q.num * p.den) = decide (p < q) := by
  rw [decide_eq_decide]
  exact (Rat.lt_iff p q).symm
end G
end RT1
section RT2
set_option maxRecDepth 100000
set_option exponentiation.threshold 300000
namespace G
/-- q in the net of 1/D, not beyond M -/
def Lat (D M : Nat) (q : Rat) : Prop := ∃ k : Int, q * (D : Rat) = (k : Rat) ∧ k.natAbs ≤ M * D
theorem Lat.add {D M N : Nat} {p q : Rat} (h : Lat D M p) (h' : Lat D N q) : Lat D (M + N) (p + q) := by
  obtain ⟨k, e, b⟩ := h
  obtain ⟨l, e', b'⟩ := h'
  refine ⟨k + l, ?_, ?_⟩
  · rw [Rat.intCast_add]
    grind
  · rw [Nat.add_mul]
    exact Nat.le_trans (Int.natAbs_add_le k l) (Nat.add_le_add b b')
theorem Lat.neg {D M : Nat} {p : Rat} (h : Lat D M p) : Lat D M (-p) := by
  obtain ⟨k, e, b⟩ := h
  refine ⟨-k, ?_, by rw [Int.natAbs_neg]; exact b⟩
  rw [Rat.intCast_neg]
  grind
theorem Lat.sub {D M N : Nat} {p q : Rat} (h : Lat D M p) (h' : Lat D N q) : Lat D (M + N) (p - q) := by
  rw [Rat.sub_eq_add_neg]
  exact h.add h'.neg
theorem Lat.mul {D E M N : Nat} {p q : Rat} (h : Lat D M p) (h' : Lat E N q) : Lat (D * E) (M * N) (p * q) := by
  obtain ⟨k, e, b⟩ := h
  obtain ⟨l, e', b'⟩ := h'
  refine ⟨k * l, ?_, ?_⟩
  · rw [Rat.intCast_mul, Rat.natCast_mul]
    grind
  · rw [Int.natAbs_mul]
    calc k.natAbs * l.natAbs ≤ (M * D) * (N * E) := Nat.mul_le_mul b b'
      _ = M * N * (D * E) := by grind
theorem Lat.up {D M : Nat} {p : Rat} (h : Lat D M p) (c : Nat) (N : Nat) (hN : M ≤ N) : Lat (D * c) N p := by
  obtain ⟨k, e, b⟩ := h
  refine ⟨k * c, ?_, ?_⟩
  · rw [Rat.intCast_mul, Rat.natCast_mul, Rat.intCast_natCast]
    grind
  · rw [Int.natAbs_mul, Int.natAbs_natCast, ← Nat.mul_assoc]
    exact Nat.mul_le_mul_right _ (Nat.le_trans b (Nat.mul_le_mul_right _ hN))
theorem Lat.mono {D M N : Nat} {p : Rat} (h : Lat D M p) (hN : M ≤ N) : Lat D N p := by
  obtain ⟨k, e, b⟩ := h
  exact ⟨k, e, Nat.le_trans b (Nat.mul_le_mul_right _ hN)⟩
theorem Lat.bd {D M n d : Nat} {q : Rat} (h : Lat D M q) (h0 : 0 < D) (hd : D < 2 ^ d) (hn : M * D < 2 ^ n) : Bd n d q := by
  obtain ⟨k, e, b⟩ := h
  have hD : (D : Int) ≠ 0 := by omega
  have hDr : (D : Rat) ≠ 0 := by
    intro z
    have : ((D : Int) : Rat) = ((0 : Int) : Rat) := by rw [Rat.intCast_natCast]; exact z
    exact hD (Rat.intCast_inj.mp this)
  have eq : q = Rat.divInt k D := by
    rw [Rat.divInt_eq_div, Rat.intCast_natCast, ← e]
    grind
  rw [eq]
  refine ⟨Nat.lt_of_le_of_lt (divInt_num_le hD) (Nat.lt_of_le_of_lt b hn), Nat.lt_of_le_of_lt (divInt_den_le hD) ?_⟩
  rw [Int.natAbs_natCast]
  exact hd
theorem Lat.int {i : Int} {M : Nat} (h : i.natAbs ≤ M) : Lat 1 M (i : Rat) := ⟨i, by grind, by omega⟩
def D0 : Nat := 51891840
def M0 : Nat := 2 ^ 200
abbrev La (q : Rat) : Prop := Lat D0 M0 q
abbrev Lp (q : Rat) : Prop := Lat D0 (2 ^ 20) q
theorem Lp.la {q : Rat} (h : Lp q) : La q := h.mono (by decide)
theorem La.bd {q : Rat} (h : La q) : Bd 230 26 q := Lat.bd h (by decide) (by decide) (by decide)
theorem La.sm {q : Rat} (h : La q) : Sm q := Bd.sm (La.bd h) (by decide) (by decide)
end G
end RT2
section EX1
set_option Elab.async false
set_option linter.all false
set_option maxRecDepth 100000
set_option maxHeartbeats 4000000
namespace G
open PySem PySem.Spec PyProof.Rows L2
/-! ### the text -/
def top (i : Nat) : Stmt := PySem.Challenge.pw_allincomes_k72_whole_means.main.body.getD i (.Pass ⟨0, 0, 0, 0⟩)
/-- names as they stand: owned lists are told by their slot -/
def nameV (δ : Ab) (i : Nat) : Option AV := match δ[i]? with
  | some (some (.lst _ _)) => some (.sl i)
  | some (some (.sl _)) => none
  | some (some a) => some a
  | _ => none
section
variable {X : Cx} {δ : Ab} {a : AV} {pos : Pos}
theorem e_nm (i : Nat) {x : Str} (ha : nameV δ i = some a) (hN : X.N[i]? = some x := by rfl) (hv : Vis X.env.scope x := by first | exact Or.inl rfl | exact Or.inr (Or.inl rfl) | exact Or.inr (Or.inr rfl))
    (hd : (x == ("__debug__" : Str)) = false := by decide) (hcd : (x == ("__classdict__" : Str)) = false := by decide) : E X (.Name x pos) δ a δ := by
  unfold nameV at ha
  split at ha
  · rename_i o ds h
    cases ha
    exact e_varS i h hN hv hd hcd
  · cases ha
  · rename_i b hb1 hb2 h
    cases ha
    cases a with
    | dat d => exact e_var i h rfl hN hv hd hcd
    | lst o ds => exact absurd rfl (hb1 o ds)
    | fz ds => exact e_varF i h hN hv hd hcd
    | sl j => exact absurd rfl (hb2 j)
    | ins C fs => exact e_var i h rfl hN hv hd hcd
    | obj q C fs => exact e_var i h rfl hN hv hd hcd
  · cases ha
end
theorem t_nt {X : Cx} {δ δ1 : Ab} {e : Expr} {pos : Pos} (h : T X e δ true δ1) : T X (.UnaryOp .Not e pos) δ false δ1 := t_not h
theorem t_nf {X : Cx} {δ δ1 : Ab} {e : Expr} {pos : Pos} (h : T X e δ false δ1) : T X (.UnaryOp .Not e pos) δ true δ1 := t_not h
section
variable {X : Cx} {δ δ1 δ2 : Ab} {e1 e2 : Expr} {pos : Pos} {i j : Int}
theorem t_neF (ha : E X e1 δ (.dat (.int i)) δ1) (hb : E X e2 δ1 (.dat (.int j)) δ2) (h : i = j := by rfl) : T X (.Compare e1 [.NotEq] [e2] pos) δ false δ2 := T.cast (t_neI ha hb) (by rw [decide_eq_true h]; rfl)
theorem t_neT (ha : E X e1 δ (.dat (.int i)) δ1) (hb : E X e2 δ1 (.dat (.int j)) δ2) (h : i ≠ j) : T X (.Compare e1 [.NotEq] [e2] pos) δ true δ2 := T.cast (t_neI ha hb) (by rw [decide_eq_false h]; rfl)
end
/-- a def of the top, and what a call of it wants -/
structure DefAt (K : PySem.W.Frag) (mg : Str → Option Value) (x : Str) (st : Stmt) (ps : List Str) (f : Addr) (fd : FuncData) : Prop where
  F : Fun K x x st f fd
  m : mg x = some (.ref f)
  b : Binds K fd ps []
theorem DefAt.cal {P : Program} {w : World} {K : PySem.W.Frag} {mg : Str → Option Value} {base : Heap} {x : Str} {st : Stmt} {ps : List Str} {f : Addr} {fd : FuncData} {k : Nat} {sp : Sp} (D : DefAt K mg x st ps f fd) (h : FnOk P w K mg base CX0 k f fd ps sp) : Cal P w K mg base x k sp := ⟨f, fd, ps, D.m, D.F.kp, D.b, h⟩
/-! ### numbers -/
def num (q : Rat) : PyData := .tuple [.int q.num, .int q.den]
abbrev dn (q : Rat) : AV := .dat (num q)
abbrev di (i : Int) : AV := .dat (.int i)
abbrev db (i : Bool) : AV := .dat (.bool i)
/-- built-in names that the text leaves alone -/
structure NoG (mg : Str → Option Value) : Prop where
  abs : mg "abs" = none
  len : mg "len" = none
  isinstance : mg "isinstance" = none
  int : mg "int" = none
  bool : mg "bool" = none
  tuple : mg "tuple" = none
  list : mg "list" = none
  all : mg "all" = none
  any : mg "any" = none
  sum : mg "sum" = none
  zip : mg "zip" = none
  enumerate : mg "enumerate" = none
  range : mg "range" = none
  max : mg "max" = none
  min : mg "min" = none
def R_cd (as : List AV) (a : AV) : Prop := ∃ x y : Int, as = [di x, di y] ∧ a = di (Int.gcd x y)
abbrev sCd : Stmt := top 10
theorem scCd : FnScope ["first", "second"] ["first", "second"] (defScope sCd) := ⟨rfl, rfl, rfl, by decide +kernel, rfl, by decide +kernel, by decide +kernel⟩
section
variable {P : Program} {w : World} {K : PySem.W.Frag} {mg : Str → Option Value} {base : Heap}
theorem c_cd {f : Addr} {fd : FuncData} (D : DefAt K mg "common_divisor" sCd ["first", "second"] f fd) (N : NoG mg) : Cal P w K mg base "common_divisor" 1 (spP K R_cd) := by
  refine D.cal (pure_ok D.F scCd (fun as a h => ?_) fun as a h cdv A outer s H Ex hr => ?_)
  · obtain ⟨x, y, rfl, _⟩ := h
    rfl
  · obtain ⟨x, y, rfl, rfl⟩ := h
    refine .inl ⟨_, _, ss_cons (s_par 0 1 scCd.nd (a_cons (e_abs (e_nm 0 rfl) N.abs) (a_cons (e_abs (e_nm 1 rfl) N.abs) a_nil)))
      (ss_cons (s_while (δ' := [some (di (Int.gcd x y)), some (di 0)]) (fun z : Nat × Nat => [some (di z.1), some (di z.2)]) (fun z => Nat.gcd z.1 z.2 = Int.gcd x y) (fun z => z.2) (fun z => decide ((0 : Int) < z.2)) (x.natAbs, y.natAbs) rfl (Le.refl _) ?_ ?_ ?_)
      (ss_one (s_ret (e_nm 0 rfl)))), .dat rfl, trivial⟩
    · intro z hz
      exact t_gt (e_nm 1 rfl) e_int
    · intro z hz hb
      have hz2 : 0 < z.2 := by simpa using hb
      refine ⟨(z.2, z.1 % z.2), ?_, Nat.mod_lt _ hz2, ss_one (S.is (s_par 0 1 scCd.nd (a_cons (e_nm 1 rfl) (a_cons (e_mod (e_nm 0 rfl) (e_nm 1 rfl) (by exact_mod_cast hz2)) a_nil))) ?_)⟩
      · show Nat.gcd z.2 (z.1 % z.2) = _
        rw [← hz, Nat.gcd_comm z.1 z.2, Nat.gcd_comm, ← Nat.gcd_rec]
      · rfl
    · intro z hz hb
      have hz2 : z.2 = 0 := by
        have : ¬ (0 : Int) < z.2 := by simpa using hb
        omega
      rw [hz2] at hz ⊢
      rw [Nat.gcd_zero_right] at hz
      rw [hz]
      exact Le.refl _

/-! ### exact -/
theorem op_fdivG {X : Cx} : OpR X (binaryOp .FloorDiv) (rI (fun _ j => j ≠ 0 ∧ j.natAbs.log2 < 9000) fun i j => .int (i.fdiv j)) := opI fun _ _ _ _ _ _ _ hc q => floordiv_int hc.1 q (.inl (PyProof.noPylong_of_log2 hc.2))
theorem e_fdiv {X : Cx} {δ δ1 δ2 : Ab} {e1 e2 : Expr} {pos : Pos} {i j : Int} (ha : E X e1 δ (di i) δ1) (hb : E X e2 δ1 (di j) δ2) (h0 : j ≠ 0) (h1 : j.natAbs < 2 ^ 9000) : E X (.BinOp e1 .FloorDiv e2 pos) δ (di (i.fdiv j)) δ2 :=
  e_op op_fdivG ha hb (ox_I ⟨h0, PySem.Flt.log2_lt_of (by decide) h1⟩)
def R_exact (as : List AV) (a : AV) : Prop := ∃ t b : Int, as = [di t, di b] ∧ b ≠ 0 ∧ b.natAbs < 2 ^ 9000 ∧ a = dn (Rat.divInt t b)
abbrev sExact : Stmt := top 11
theorem scExact : FnScope ["top", "bottom", "divisor"] ["top", "bottom"] (defScope sExact) := ⟨rfl, rfl, rfl, by decide +kernel, rfl, by decide +kernel, by decide +kernel⟩
theorem c_exact {f : Addr} {fd : FuncData} (D : DefAt K mg "exact" sExact ["top", "bottom"] f fd) (C : Cal P w K mg base "common_divisor" 1 (spP K R_cd)) : Cal P w K mg base "exact" 2 (spP K R_exact) := by
  refine D.cal (pure_ok D.F scExact (fun as a h => ?_) fun as a h cdv A outer s H Ex hr => ?_)
  · obtain ⟨t, b, rfl, _⟩ := h
    rfl
  · obtain ⟨t, b, rfl, hb, hbig, rfl⟩ := h
    refine .inl ⟨_, _, ss_cons (s_set (a := di (exd t b)) 2 scExact.nd (e_if (t_gt (e_nm 1 rfl) e_int) (fun h => ?_) fun h => ?_))
      (ss_one (s_ret (E.cast (e_tup (a_cons (e_fdiv (e_nm 0 rfl) (e_nm 2 rfl) (exd_ne hb) ?_) (a_cons (e_fdiv (e_nm 1 rfl) (e_nm 2 rfl) (exd_ne hb) ?_) a_nil)) rfl) (a' := dn (Rat.divInt t b)) ?_))), .dat rfl, trivial⟩
    · refine E.cast (e_call C hr (a_cons (e_nm 0 rfl) (a_cons (e_nm 1 rfl) a_nil)) rfl ⟨t, b, rfl, rfl⟩) ?_
      unfold exd
      rw [if_pos (of_decide_eq_true h)]
    · refine E.cast (e_neg (e_call C hr (a_cons (e_nm 0 rfl) (a_cons (e_nm 1 rfl) a_nil)) rfl ⟨t, b, rfl, rfl⟩)) ?_
      unfold exd
      rw [if_neg (of_decide_eq_false h)]
    · exact Nat.lt_of_le_of_lt (exd_abs hb) hbig
    · exact Nat.lt_of_le_of_lt (exd_abs hb) hbig
    · rw [exact_num t b hb, exact_den t b hb]
      rfl
/-! ### is_integer, is_number -/
def R_isint (as : List AV) (a : AV) : Prop := ∃ i : Int, as = [di i] ∧ a = db true
abbrev sIsint : Stmt := top 12
theorem scIsint : FnScope ["value"] ["value"] (defScope sIsint) := ⟨rfl, rfl, rfl, by decide +kernel, rfl, by decide +kernel, by decide +kernel⟩
theorem c_isint {f : Addr} {fd : FuncData} (D : DefAt K mg "is_integer" sIsint ["value"] f fd) (N : NoG mg) : Cal P w K mg base "is_integer" 1 (spP K R_isint) := by
  refine D.cal (pure_ok D.F scIsint (fun as a h => ?_) fun as a h cdv A outer s H Ex hr => ?_)
  · obtain ⟨i, rfl, _⟩ := h
    rfl
  · obtain ⟨i, rfl, rfl⟩ := h
    exact .inl ⟨_, _, ss_one (s_ret (e_andT (e_isi true "int" (e_nm 0 rfl) N.int N.isinstance rfl) (e_and1 (e_not (e_isi false "int" (e_nm 0 rfl) N.bool N.isinstance rfl))))), .dat rfl, trivial⟩
def R_isnum (as : List AV) (a : AV) : Prop := ∃ q : Rat, as = [dn q] ∧ a = db true
abbrev sIsnum : Stmt := top 13
theorem scIsnum : FnScope ["value"] ["value"] (defScope sIsnum) := ⟨rfl, rfl, rfl, by decide +kernel, rfl, by decide +kernel, by decide +kernel⟩
theorem c_isnum {f : Addr} {fd : FuncData} (D : DefAt K mg "is_number" sIsnum ["value"] f fd) (N : NoG mg) (C1 : Cal P w K mg base "is_integer" 1 (spP K R_isint)) (C : Cal P w K mg base "common_divisor" 1 (spP K R_cd)) : Cal P w K mg base "is_number" 2 (spP K R_isnum) := by
  refine D.cal (pure_ok D.F scIsnum (fun as a h => ?_) fun as a h cdv A outer s H Ex hr => ?_)
  · obtain ⟨q, rfl, _⟩ := h
    rfl
  · obtain ⟨q, rfl, rfl⟩ := h
    refine .inl ⟨_, _, ss_cons (s_ifF (w_pt (w_orF (t_nt (t_val (e_isi true "tuple" (e_nm 0 rfl) N.tuple N.isinstance rfl))) (w_orF (t_neF (e_len (e_nm 0 rfl) rfl N.len) e_int)
      (w_orF (t_nt (t_val (e_call C1 hr (a_cons (e_ixT (e_nm 0 rfl) e_int rfl) a_nil) rfl ⟨_, rfl, rfl⟩))) (w_or1 (t_nt (t_val (e_call C1 hr (a_cons (e_ixT (e_nm 0 rfl) e_int rfl) a_nil) rfl ⟨_, rfl, rfl⟩)))))))) pss_no ss_nil)
      (ss_one (s_ret (E.cast (e_and' (b1 := true) (e_gt (e_ixT (e_nm 0 rfl) e_int rfl) e_int) (fun _ => e_and1 (E.cast (e_eqI (e_call C hr (a_cons (e_ixT (e_nm 0 rfl) e_int rfl) (a_cons (e_ixT (e_nm 0 rfl) e_int rfl) a_nil)) rfl ⟨_, _, rfl, rfl⟩) e_int) ?_))) (a' := db true) ?_))), .dat rfl, trivial⟩
    · have e : Int.gcd q.num q.den = 1 := q.reduced
      rw [e]
      rfl
    · have e : decide ((0 : Int) < q.den) = true := decide_eq_true (by have := q.den_pos; omega)
      rw [e]
      rfl
end
end G
end EX1
section EX2
set_option Elab.async false
set_option linter.all false
set_option maxRecDepth 100000
set_option maxHeartbeats 4000000
set_option exponentiation.threshold 300000
namespace G
open PySem PySem.Spec PyProof.Rows L2
/-! ### numbers added, multiplied, compared -/
theorem natAbs_den {q : Rat} : ((q.den : Nat) : Int).natAbs = q.den := Int.natAbs_natCast _
theorem mul_nd {p q : Rat} (h1 : Sm p) (h2 : Sm q) : CMulW p.num q.den := wide_mul h1.1 (by rw [natAbs_den]; exact h2.2) (by decide) (by decide) (by decide)
theorem mul_nn {p q : Rat} (h1 : Sm p) (h2 : Sm q) : CMulW p.num q.num := wide_mul h1.1 h2.1 (by decide) (by decide) (by decide)
theorem mul_dd {p q : Rat} (h1 : Sm p) (h2 : Sm q) : CMulW p.den q.den := wide_mul (by rw [natAbs_den]; exact h1.2) (by rw [natAbs_den]; exact h2.2) (by decide) (by decide) (by decide)
theorem mul_dn {p q : Rat} (h1 : Sm p) (h2 : Sm q) : CMulW p.den q.num := wide_mul (by rw [natAbs_den]; exact h1.2) h2.1 (by decide) (by decide) (by decide)
theorem dd_ne (p q : Rat) : ((p.den : Int) * q.den) ≠ 0 := Int.mul_ne_zero (den_ne p) (den_ne q)
theorem dd_big {p q : Rat} (h1 : Sm p) (h2 : Sm q) : ((p.den : Int) * q.den).natAbs < 2 ^ 9000 := by
  rw [Int.natAbs_mul, natAbs_den, natAbs_den]
  exact Nat.lt_of_lt_of_le (lt_pow_mul h1.2 h2.2) (pow_le (by decide))
def R_num2 (f : Rat → Rat → Rat) (as : List AV) (a : AV) : Prop := ∃ p q : Rat, as = [dn p, dn q] ∧ (Sm p ∧ Sm q) ∧ a = dn (f p q)
section
variable {P : Program} {w : World} {K : PySem.W.Frag} {mg : Str → Option Value} {base : Heap}
abbrev sPlus : Stmt := top 14
theorem scPlus : FnScope ["first", "second"] ["first", "second"] (defScope sPlus) := ⟨rfl, rfl, rfl, by decide +kernel, rfl, by decide +kernel, by decide +kernel⟩
theorem c_plus {f : Addr} {fd : FuncData} (D : DefAt K mg "plus" sPlus ["first", "second"] f fd) (C : Cal P w K mg base "exact" 2 (spP K R_exact)) : Cal P w K mg base "plus" 3 (spP K (R_num2 (· + ·))) := by
  refine D.cal (pure_ok D.F scPlus (fun as a h => ?_) fun as a h cdv A outer s H Ex hr => ?_)
  · obtain ⟨p, q, rfl, _⟩ := h
    rfl
  · obtain ⟨p, q, rfl, ⟨h1, h2⟩, rfl⟩ := h
    exact .inl ⟨_, _, ss_one (s_ret (e_call C hr (a_cons (e_add (e_mul (e_ixT (e_nm 0 rfl) e_int rfl) (e_ixT (e_nm 1 rfl) e_int rfl) (mul_nd h1 h2)) (e_mul (e_ixT (e_nm 1 rfl) e_int rfl) (e_ixT (e_nm 0 rfl) e_int rfl) (mul_nd h2 h1)))
      (a_cons (e_mul (e_ixT (e_nm 0 rfl) e_int rfl) (e_ixT (e_nm 1 rfl) e_int rfl) (mul_dd h1 h2)) a_nil)) rfl ⟨_, _, rfl, dd_ne p q, dd_big h1 h2, by rw [rat_add]⟩)), .dat rfl, trivial⟩
def R_num1 (f : Rat → Rat) (as : List AV) (a : AV) : Prop := ∃ p : Rat, as = [dn p] ∧ a = dn (f p)
abbrev sNeg : Stmt := top 15
theorem scNeg : FnScope ["number"] ["number"] (defScope sNeg) := ⟨rfl, rfl, rfl, by decide +kernel, rfl, by decide +kernel, by decide +kernel⟩
theorem c_neg {f : Addr} {fd : FuncData} (D : DefAt K mg "negative" sNeg ["number"] f fd) : Cal P w K mg base "negative" 1 (spP K (R_num1 (- ·))) := by
  refine D.cal (pure_ok D.F scNeg (fun as a h => ?_) fun as a h cdv A outer s H Ex hr => ?_)
  · obtain ⟨p, rfl, _⟩ := h
    rfl
  · obtain ⟨p, rfl, rfl⟩ := h
    exact .inl ⟨_, _, ss_one (s_ret (E.cast (e_tup (a_cons (e_neg (e_ixT (e_nm 0 rfl) e_int rfl)) (a_cons (e_ixT (e_nm 0 rfl) e_int rfl) a_nil)) rfl) rfl)), .dat rfl, trivial⟩
abbrev sMinus : Stmt := top 16
theorem scMinus : FnScope ["first", "second"] ["first", "second"] (defScope sMinus) := ⟨rfl, rfl, rfl, by decide +kernel, rfl, by decide +kernel, by decide +kernel⟩
theorem Sm.neg {q : Rat} (h : Sm q) : Sm (-q) := Bd.neg h
theorem c_minus {f : Addr} {fd : FuncData} (D : DefAt K mg "minus" sMinus ["first", "second"] f fd) (C : Cal P w K mg base "plus" 3 (spP K (R_num2 (· + ·)))) (C2 : Cal P w K mg base "negative" 1 (spP K (R_num1 (- ·)))) : Cal P w K mg base "minus" 4 (spP K (R_num2 (· - ·))) := by
  refine D.cal (pure_ok D.F scMinus (fun as a h => ?_) fun as a h cdv A outer s H Ex hr => ?_)
  · obtain ⟨p, q, rfl, _⟩ := h
    rfl
  · obtain ⟨p, q, rfl, ⟨h1, h2⟩, rfl⟩ := h
    exact .inl ⟨_, _, ss_one (s_ret (e_call C hr (a_cons (e_nm 0 rfl) (a_cons (e_call C2 (hr.mono (by decide)) (a_cons (e_nm 1 rfl) a_nil) rfl ⟨q, rfl, rfl⟩) a_nil)) rfl ⟨p, -q, rfl, ⟨h1, h2.neg⟩, by show dn (p - q) = dn (p + -q); rw [Rat.sub_eq_add_neg]⟩)), .dat rfl, trivial⟩
abbrev sProd : Stmt := top 17
theorem scProd : FnScope ["first", "second"] ["first", "second"] (defScope sProd) := ⟨rfl, rfl, rfl, by decide +kernel, rfl, by decide +kernel, by decide +kernel⟩
theorem c_prod {f : Addr} {fd : FuncData} (D : DefAt K mg "product" sProd ["first", "second"] f fd) (C : Cal P w K mg base "exact" 2 (spP K R_exact)) : Cal P w K mg base "product" 3 (spP K (R_num2 (· * ·))) := by
  refine D.cal (pure_ok D.F scProd (fun as a h => ?_) fun as a h cdv A outer s H Ex hr => ?_)
  · obtain ⟨p, q, rfl, _⟩ := h
    rfl
  · obtain ⟨p, q, rfl, ⟨h1, h2⟩, rfl⟩ := h
    exact .inl ⟨_, _, ss_one (s_ret (e_call C hr (a_cons (e_mul (e_ixT (e_nm 0 rfl) e_int rfl) (e_ixT (e_nm 1 rfl) e_int rfl) (mul_nn h1 h2)) (a_cons (e_mul (e_ixT (e_nm 0 rfl) e_int rfl) (e_ixT (e_nm 1 rfl) e_int rfl) (mul_dd h1 h2)) a_nil)) rfl ⟨_, _, rfl, dd_ne p q, dd_big h1 h2, by rw [rat_mul]⟩)), .dat rfl, trivial⟩
/-- a divisor: not 0, its top not too great -/
def Dv (q : Rat) : Prop := q ≠ 0 ∧ Sm q ∧ q.num.natAbs < 2 ^ 4000
def R_quot (as : List AV) (a : AV) : Prop := ∃ p q : Rat, as = [dn p, dn q] ∧ (Sm p ∧ Dv q) ∧ a = dn (p / q)
abbrev sQuot : Stmt := top 18
theorem scQuot : FnScope ["first", "second"] ["first", "second"] (defScope sQuot) := ⟨rfl, rfl, rfl, by decide +kernel, rfl, by decide +kernel, by decide +kernel⟩
theorem c_quot {f : Addr} {fd : FuncData} (D : DefAt K mg "quotient" sQuot ["first", "second"] f fd) (C : Cal P w K mg base "exact" 2 (spP K R_exact)) : Cal P w K mg base "quotient" 3 (spP K R_quot) := by
  refine D.cal (pure_ok D.F scQuot (fun as a h => ?_) fun as a h cdv A outer s H Ex hr => ?_)
  · obtain ⟨p, q, rfl, _⟩ := h
    rfl
  · obtain ⟨p, q, rfl, ⟨h1, h0, h2, h3⟩, rfl⟩ := h
    exact .inl ⟨_, _, ss_one (s_ret (e_call C hr (a_cons (e_mul (e_ixT (e_nm 0 rfl) e_int rfl) (e_ixT (e_nm 1 rfl) e_int rfl) (mul_nd h1 h2)) (a_cons (e_mul (e_ixT (e_nm 0 rfl) e_int rfl) (e_ixT (e_nm 1 rfl) e_int rfl) (mul_dn h1 h2)) a_nil)) rfl
      ⟨_, _, rfl, Int.mul_ne_zero (den_ne p) (num_ne h0), by rw [Int.natAbs_mul, natAbs_den]; exact Nat.lt_of_lt_of_le (lt_pow_mul h1.2 h3) (pow_le (by decide)), by rw [rat_div]⟩)), .dat rfl, trivial⟩
def R_less (as : List AV) (a : AV) : Prop := ∃ p q : Rat, as = [dn p, dn q] ∧ (Sm p ∧ Sm q) ∧ a = db (decide (p < q))
abbrev sLess : Stmt := top 19
theorem scLess : FnScope ["first", "second"] ["first", "second"] (defScope sLess) := ⟨rfl, rfl, rfl, by decide +kernel, rfl, by decide +kernel, by decide +kernel⟩
theorem c_less {f : Addr} {fd : FuncData} (D : DefAt K mg "is_less" sLess ["first", "second"] f fd) : Cal P w K mg base "is_less" 1 (spP K R_less) := by
  refine D.cal (pure_ok D.F scLess (fun as a h => ?_) fun as a h cdv A outer s H Ex hr => ?_)
  · obtain ⟨p, q, rfl, _⟩ := h
    rfl
  · obtain ⟨p, q, rfl, ⟨h1, h2⟩, rfl⟩ := h
    exact .inl ⟨_, _, ss_one (s_ret (E.cast (e_lt (e_mul (e_ixT (e_nm 0 rfl) e_int rfl) (e_ixT (e_nm 1 rfl) e_int rfl) (mul_nd h1 h2)) (e_mul (e_ixT (e_nm 1 rfl) e_int rfl) (e_ixT (e_nm 0 rfl) e_int rfl) (mul_nd h2 h1))) (by rw [lt_num]))), .dat rfl, trivial⟩
def maxQ (p q : Rat) : Rat := if p < q then q else p
def minQ (p q : Rat) : Rat := if q < p then q else p
abbrev sMax : Stmt := top 20
theorem scMax : FnScope ["first", "second"] ["first", "second"] (defScope sMax) := ⟨rfl, rfl, rfl, by decide +kernel, rfl, by decide +kernel, by decide +kernel⟩
theorem c_max {f : Addr} {fd : FuncData} (D : DefAt K mg "larger_of" sMax ["first", "second"] f fd) (C : Cal P w K mg base "is_less" 1 (spP K R_less)) : Cal P w K mg base "larger_of" 2 (spP K (R_num2 maxQ)) := by
  refine D.cal (pure_ok D.F scMax (fun as a h => ?_) fun as a h cdv A outer s H Ex hr => ?_)
  · obtain ⟨p, q, rfl, _⟩ := h
    rfl
  · obtain ⟨p, q, rfl, ⟨h1, h2⟩, rfl⟩ := h
    refine .inl ⟨_, _, ss_one (s_ret (e_if (t_val (e_call C hr (a_cons (e_nm 0 rfl) (a_cons (e_nm 1 rfl) a_nil)) rfl ⟨p, q, rfl, ⟨h1, h2⟩, rfl⟩)) (fun h => E.cast (e_nm 1 rfl) ?_) (fun h => E.cast (e_nm 0 rfl) ?_))), .dat rfl, trivial⟩
    · unfold maxQ
      rw [if_pos (of_decide_eq_true h)]
    · unfold maxQ
      rw [if_neg (of_decide_eq_false h)]
abbrev sMin : Stmt := top 21
theorem scMin : FnScope ["first", "second"] ["first", "second"] (defScope sMin) := ⟨rfl, rfl, rfl, by decide +kernel, rfl, by decide +kernel, by decide +kernel⟩
theorem c_min {f : Addr} {fd : FuncData} (D : DefAt K mg "smaller_of" sMin ["first", "second"] f fd) (C : Cal P w K mg base "is_less" 1 (spP K R_less)) : Cal P w K mg base "smaller_of" 2 (spP K (R_num2 minQ)) := by
  refine D.cal (pure_ok D.F scMin (fun as a h => ?_) fun as a h cdv A outer s H Ex hr => ?_)
  · obtain ⟨p, q, rfl, _⟩ := h
    rfl
  · obtain ⟨p, q, rfl, ⟨h1, h2⟩, rfl⟩ := h
    refine .inl ⟨_, _, ss_one (s_ret (e_if (t_val (e_call C hr (a_cons (e_nm 1 rfl) (a_cons (e_nm 0 rfl) a_nil)) rfl ⟨q, p, rfl, ⟨h2, h1⟩, rfl⟩)) (fun h => E.cast (e_nm 1 rfl) ?_) (fun h => E.cast (e_nm 0 rfl) ?_))), .dat rfl, trivial⟩
    · unfold minQ
      rw [if_pos (of_decide_eq_true h)]
    · unfold minQ
      rw [if_neg (of_decide_eq_false h)]
end
end G
end EX2
section EX3
set_option Elab.async false
set_option linter.all false
set_option maxRecDepth 100000
set_option maxHeartbeats 4000000
set_option exponentiation.threshold 300000
namespace G
open PySem PySem.Spec PyProof.Rows L2
/-! ### shapes, equality -/
def Shp (n : Nat) (d : PyData) : Prop := PyData.canLay0 d = true ∧ d.depth ≤ n
theorem shp_num {q : Rat} : Shp 2 (num q) := ⟨rfl, by show PyData.depth (num q) ≤ 2; simp [num, PyData.depth, PyData.depthAll]⟩
theorem Shp.shaped {n : Nat} {d : PyData} (h : Shp n d) (hn : n ≤ 64) : SeqAt.shaped d = true := by
  unfold SeqAt.shaped
  rw [h.1, decide_eq_true (Nat.le_trans h.2 hn)]
  rfl
theorem shaped_num {q : Rat} : SeqAt.shaped (num q) = true := shp_num.shaped (by decide)
theorem eqv_num {p q : Rat} : PyData.eqv (num p) (num q) = decide (p = q) := by
  have e : PyData.eqv (num p) (num q) = ((p.num == q.num) && (((p.den : Int) == (q.den : Int)) && true)) := rfl
  rw [e, Bool.and_true]
  by_cases h : p = q
  · subst h
    simp
  · rw [decide_eq_false h]
    by_cases h1 : p.num = q.num
    · have h2 : p.den ≠ q.den := fun e => h (Rat.ext h1 e)
      have h3 : ((p.den : Int) == (q.den : Int)) = false := by
        rw [beq_eq_false_iff_ne]
        omega
      rw [h3, Bool.and_false]
    · have h3 : (p.num == q.num) = false := beq_eq_false_iff_ne.mpr h1
      rw [h3, Bool.false_and]
section
variable {X : Cx} {δ δ1 δ2 : Ab} {a b : AV} {e1 e2 : Expr} {pos : Pos} {p q : Rat} {d1 d2 : PyData}
theorem t_neN (hu : X.A.units + 64 < cLine) (ha : E X e1 δ (dn p) δ1) (hb : E X e2 δ1 (dn q) δ2) : T X (.Compare e1 [.NotEq] [e2] pos) δ (!decide (p = q)) δ2 := by
  have z := t_cmp (op_neD hu) ha hb (ox_neD (δ := δ2) rfl rfl shaped_num shaped_num) (nomark _) (pos := pos)
  rw [eqv_num] at z
  exact z
theorem t_eqN (hu : X.A.units + 64 < cLine) (ha : E X e1 δ (dn p) δ1) (hb : E X e2 δ1 (dn q) δ2) : T X (.Compare e1 [.Eq] [e2] pos) δ (decide (p = q)) δ2 := by
  have z := t_cmp (op_eqD hu) ha hb (ox_eqD (δ := δ2) rfl rfl shaped_num shaped_num) (nomark _) (pos := pos)
  rw [eqv_num] at z
  exact z
theorem t_neG (hu : X.A.units + 64 < cLine) (ha : E X e1 δ a δ1) (hb : E X e2 δ1 b δ2) (h1 : view δ2 a = some d1) (h2 : view δ2 b = some d2) (s1 : SeqAt.shaped d1 = true) (s2 : SeqAt.shaped d2 = true) : T X (.Compare e1 [.NotEq] [e2] pos) δ (!PyData.eqv d1 d2) δ2 :=
  t_cmp (op_neD hu) ha hb (ox_neD h1 h2 s1 s2) (nomark _)
theorem t_eqG (hu : X.A.units + 64 < cLine) (ha : E X e1 δ a δ1) (hb : E X e2 δ1 b δ2) (h1 : view δ2 a = some d1) (h2 : view δ2 b = some d2) (s1 : SeqAt.shaped d1 = true) (s2 : SeqAt.shaped d2 = true) : T X (.Compare e1 [.Eq] [e2] pos) δ (PyData.eqv d1 d2) δ2 :=
  t_cmp (op_eqD hu) ha hb (ox_eqD h1 h2 s1 s2) (nomark _)
end
section
variable {X : Cx} {δ δ1 : Ab} {e1 : Expr} {pos p1 : Pos} {d : PyData}
theorem t_isN (ha : E X e1 δ (.dat d) δ1) (b0 : Bool) (hb : isNone d = b0 := by rfl) {j} : T X (.Compare e1 [.Is] [.Constant .none j p1] pos) δ b0 δ1 :=
  pt_of (pt_cmp (pc_isN ha) (nomark _)) fun σ H Q ⟨B, gs, γ, hl, S0, k⟩ => ⟨B, gs, γ, hl, S0, fun x H1 S1 => by
    have e : decide (x = V.non) = b0 := by
      rcases S1.last with h | h
      · cases h <;> (rw [← hb]; rfl)
      · cases h.2 <;> (rw [← hb]; rfl)
    exact ⟨b0, congrArg V.bl e, k _ S1.pop⟩⟩
theorem t_notN (ha : E X e1 δ (.dat d) δ1) (b0 : Bool) (hb : (!isNone d) = b0 := by rfl) {j} : T X (.Compare e1 [.IsNot] [.Constant .none j p1] pos) δ b0 δ1 :=
  pt_of (pt_cmp (pc_notN ha) (nomark _)) fun σ H Q ⟨B, gs, γ, hl, S0, k⟩ => ⟨B, gs, γ, hl, S0, fun x H1 S1 => by
    have e : (!decide (x = V.non)) = b0 := by
      rcases S1.last with h | h
      · cases h <;> (rw [← hb]; rfl)
      · cases h.2 <;> (rw [← hb]; rfl)
    exact ⟨b0, congrArg V.bl e, k _ S1.pop⟩⟩
end
/-- a constant of the top -/
def GC (K : PySem.W.Frag) (mg : Str → Option Value) (x : Str) (d : PyData) : Prop := ∃ v u, mg x = some u ∧ RelV v u ∧ ∀ H : Hp, Dp K H v d
theorem e_gc {X : Cx} {δ : Ab} {x : Str} {d : PyData} {pos : Pos} (h : GC X.K X.mg x d) (hg : Gl X x := by rfl) (hdb : (x == ("__debug__" : Str)) = false := by decide) : E X (.Name x pos) δ (.dat d) δ := by
  obtain ⟨v, u, hm, r, hd⟩ := h
  exact e_glob hd hm r hg hdb
/-! ### cuts -/
structure Cut where
  k : Int
  q : Rat
  s : Int
  deriving DecidableEq
def cuD (c : Cut) : PyData := .tuple [.int c.k, num c.q, .int c.s]
abbrev dc (c : Cut) : AV := .dat (cuD c)
def BOT : Cut := ⟨-1, 0, 0⟩
def TOPC : Cut := ⟨1, 0, 0⟩
def cb (c d : Cut) : Bool := if c.k ≠ d.k then decide (c.k < d.k) else if c.q ≠ d.q then decide (c.q < d.q) else decide (c.s < d.s)
section
variable {P : Program} {w : World} {K : PySem.W.Frag} {mg : Str → Option Value} {base : Heap}
def R_mkcut (s : Int) (as : List AV) (a : AV) : Prop := ∃ q : Rat, as = [dn q] ∧ a = dc ⟨0, q, s⟩
abbrev sBelow : Stmt := top 25
theorem scBelow : FnScope ["number"] ["number"] (defScope sBelow) := ⟨rfl, rfl, rfl, by decide +kernel, rfl, by decide +kernel, by decide +kernel⟩
theorem c_below {f : Addr} {fd : FuncData} (D : DefAt K mg "below" sBelow ["number"] f fd) : Cal P w K mg base "below" 1 (spP K (R_mkcut 0)) := by
  refine D.cal (pure_ok D.F scBelow (fun as a h => ?_) fun as a h cdv A outer s H Ex hr => ?_)
  · obtain ⟨q, rfl, _⟩ := h
    rfl
  · obtain ⟨q, rfl, rfl⟩ := h
    exact .inl ⟨_, _, ss_one (s_ret (E.cast (e_tup (a_cons e_int (a_cons (e_nm 0 rfl) (a_cons e_int a_nil))) rfl) rfl)), .dat rfl, trivial⟩
abbrev sAbove : Stmt := top 26
theorem scAbove : FnScope ["number"] ["number"] (defScope sAbove) := ⟨rfl, rfl, rfl, by decide +kernel, rfl, by decide +kernel, by decide +kernel⟩
theorem c_above {f : Addr} {fd : FuncData} (D : DefAt K mg "above" sAbove ["number"] f fd) : Cal P w K mg base "above" 1 (spP K (R_mkcut 1)) := by
  refine D.cal (pure_ok D.F scAbove (fun as a h => ?_) fun as a h cdv A outer s H Ex hr => ?_)
  · obtain ⟨q, rfl, _⟩ := h
    rfl
  · obtain ⟨q, rfl, rfl⟩ := h
    exact .inl ⟨_, _, ss_one (s_ret (E.cast (e_tup (a_cons e_int (a_cons (e_nm 0 rfl) (a_cons e_int a_nil))) rfl) rfl)), .dat rfl, trivial⟩
def R_cb (as : List AV) (a : AV) : Prop := ∃ c d : Cut, as = [dc c, dc d] ∧ (Sm c.q ∧ Sm d.q) ∧ a = db (cb c d)
abbrev sCb : Stmt := top 27
theorem scCb : FnScope ["first", "second"] ["first", "second"] (defScope sCb) := ⟨rfl, rfl, rfl, by decide +kernel, rfl, by decide +kernel, by decide +kernel⟩
theorem c_cb {f : Addr} {fd : FuncData} (D : DefAt K mg "comes_before" sCb ["first", "second"] f fd) (C : Cal P w K mg base "is_less" 1 (spP K R_less)) : Cal P w K mg base "comes_before" 2 (spP K R_cb) := by
  refine D.cal (pure_ok D.F scCb (fun as a h => ?_) fun as a h cdv A outer s H Ex hr => ?_)
  · obtain ⟨c, d, rfl, _⟩ := h
    rfl
  · obtain ⟨c, d, rfl, ⟨h1, h2⟩, rfl⟩ := h
    by_cases hk : c.k = d.k
    · by_cases hq : c.q = d.q
      · refine .inl ⟨_, _, ss_cons (s_ifF (T.cast (t_neI (e_ixT (e_nm 0 rfl) e_int rfl) (e_ixT (e_nm 1 rfl) e_int rfl)) (b' := false) (by rw [decide_eq_true hk]; rfl)) pss_no ss_nil)
          (ss_cons (s_ifF (T.cast (t_neN hr.units (p := c.q) (q := d.q) (e_ixT (e_nm 0 rfl) e_int rfl) (e_ixT (e_nm 1 rfl) e_int rfl)) (b' := false) (by rw [decide_eq_true hq]; rfl)) pss_no ss_nil)
          (ss_one (s_ret (E.cast (e_lt (e_ixT (e_nm 0 rfl) e_int rfl) (e_ixT (e_nm 1 rfl) e_int rfl)) (a' := db (cb c d)) (by unfold cb; rw [if_neg (not_not_intro hk), if_neg (not_not_intro hq)]))))), .dat rfl, trivial⟩
      · refine .inl ⟨_, _, ss_cons (s_ifF (T.cast (t_neI (e_ixT (e_nm 0 rfl) e_int rfl) (e_ixT (e_nm 1 rfl) e_int rfl)) (b' := false) (by rw [decide_eq_true hk]; rfl)) pss_no ss_nil)
          (ss_ret (s_ifT (T.cast (t_neN hr.units (p := c.q) (q := d.q) (e_ixT (e_nm 0 rfl) e_int rfl) (e_ixT (e_nm 1 rfl) e_int rfl)) (b' := true) (by rw [decide_eq_false hq]; rfl))
          (ss_one (s_ret (E.cast (e_call C hr (a_cons (e_ixT (e_nm 0 rfl) e_int rfl) (a_cons (e_ixT (e_nm 1 rfl) e_int rfl) a_nil)) rfl ⟨c.q, d.q, rfl, ⟨h1, h2⟩, rfl⟩) (a' := db (cb c d)) (by unfold cb; rw [if_neg (not_not_intro hk), if_pos hq])))) pss_no)), .dat rfl, trivial⟩
    · refine .inl ⟨_, _, ss_ret (s_ifT (T.cast (t_neI (e_ixT (e_nm 0 rfl) e_int rfl) (e_ixT (e_nm 1 rfl) e_int rfl)) (b' := true) (by rw [decide_eq_false hk]; rfl))
          (ss_one (s_ret (E.cast (e_lt (e_ixT (e_nm 0 rfl) e_int rfl) (e_ixT (e_nm 1 rfl) e_int rfl)) (a' := db (cb c d)) (by unfold cb; rw [if_pos hk])))) pss_no), .dat rfl, trivial⟩
def later (c d : Cut) : Cut := if cb c d then d else c
def earlier (c d : Cut) : Cut := if cb d c then d else c
def R_cut2 (f : Cut → Cut → Cut) (as : List AV) (a : AV) : Prop := ∃ c d : Cut, as = [dc c, dc d] ∧ (Sm c.q ∧ Sm d.q) ∧ a = dc (f c d)
abbrev sLater : Stmt := top 28
theorem scLater : FnScope ["first", "second"] ["first", "second"] (defScope sLater) := ⟨rfl, rfl, rfl, by decide +kernel, rfl, by decide +kernel, by decide +kernel⟩
theorem c_later {f : Addr} {fd : FuncData} (D : DefAt K mg "later_cut" sLater ["first", "second"] f fd) (C : Cal P w K mg base "comes_before" 2 (spP K R_cb)) : Cal P w K mg base "later_cut" 3 (spP K (R_cut2 later)) := by
  refine D.cal (pure_ok D.F scLater (fun as a h => ?_) fun as a h cdv A outer s H Ex hr => ?_)
  · obtain ⟨c, d, rfl, _⟩ := h
    rfl
  · obtain ⟨c, d, rfl, ⟨h1, h2⟩, rfl⟩ := h
    refine .inl ⟨_, _, ss_one (s_ret (e_if (t_val (e_call C hr (a_cons (e_nm 0 rfl) (a_cons (e_nm 1 rfl) a_nil)) rfl ⟨c, d, rfl, ⟨h1, h2⟩, rfl⟩)) (fun h => E.cast (e_nm 1 rfl) ?_) (fun h => E.cast (e_nm 0 rfl) ?_))), .dat rfl, trivial⟩
    · unfold later
      rw [if_pos h]
    · unfold later
      rw [if_neg (by rw [h]; exact Bool.false_ne_true)]
abbrev sEarlier : Stmt := top 29
theorem scEarlier : FnScope ["first", "second"] ["first", "second"] (defScope sEarlier) := ⟨rfl, rfl, rfl, by decide +kernel, rfl, by decide +kernel, by decide +kernel⟩
theorem c_earlier {f : Addr} {fd : FuncData} (D : DefAt K mg "earlier_cut" sEarlier ["first", "second"] f fd) (C : Cal P w K mg base "comes_before" 2 (spP K R_cb)) : Cal P w K mg base "earlier_cut" 3 (spP K (R_cut2 earlier)) := by
  refine D.cal (pure_ok D.F scEarlier (fun as a h => ?_) fun as a h cdv A outer s H Ex hr => ?_)
  · obtain ⟨c, d, rfl, _⟩ := h
    rfl
  · obtain ⟨c, d, rfl, ⟨h1, h2⟩, rfl⟩ := h
    refine .inl ⟨_, _, ss_one (s_ret (e_if (t_val (e_call C hr (a_cons (e_nm 1 rfl) (a_cons (e_nm 0 rfl) a_nil)) rfl ⟨d, c, rfl, ⟨h2, h1⟩, rfl⟩)) (fun h => E.cast (e_nm 1 rfl) ?_) (fun h => E.cast (e_nm 0 rfl) ?_))), .dat rfl, trivial⟩
    · unfold earlier
      rw [if_pos h]
    · unfold earlier
      rw [if_neg (by rw [h]; exact Bool.false_ne_true)]
/-! ### ranges -/
structure Rg where
  lo : Option (Rat × Bool)
  hi : Option (Rat × Bool)
def oD : Option (Rat × Bool) → List PyData
  | none => [.none, .bool false]
  | some (q, b) => [num q, .bool b]
def rgD (r : Rg) : PyData := .tuple (oD r.lo ++ oD r.hi)
def cutLo : Option (Rat × Bool) → Cut
  | none => BOT
  | some (q, b) => ⟨0, q, if b then 0 else 1⟩
def cutHi : Option (Rat × Bool) → Cut
  | none => TOPC
  | some (q, b) => ⟨0, q, if b then 1 else 0⟩
def smO : Option (Rat × Bool) → Prop
  | none => True
  | some (q, _) => Sm q
def R_isend (as : List AV) (a : AV) : Prop := ∃ o : Option (Rat × Bool), as = (oD o).map .dat ∧ a = db true
abbrev sIsend : Stmt := top 30
theorem scIsend : FnScope ["number", "is_with"] ["number", "is_with"] (defScope sIsend) := ⟨rfl, rfl, rfl, by decide +kernel, rfl, by decide +kernel, by decide +kernel⟩
theorem c_isend {f : Addr} {fd : FuncData} (D : DefAt K mg "is_end" sIsend ["number", "is_with"] f fd) (N : NoG mg) (C : Cal P w K mg base "is_number" 2 (spP K R_isnum)) : Cal P w K mg base "is_end" 3 (spP K R_isend) := by
  refine D.cal (pure_ok D.F scIsend (fun as a h => ?_) fun as a h cdv A outer s H Ex hr => ?_)
  · obtain ⟨o, rfl, _⟩ := h
    cases o <;> rfl
  · obtain ⟨o, rfl, rfl⟩ := h
    cases o with
    | none => exact .inl ⟨_, _, ss_cons (s_ifF (t_nt (t_val (e_isi true "bool" (e_nm 1 rfl) N.bool N.isinstance rfl))) pss_no ss_nil) (ss_one (s_ret (e_ifT (t_isN (e_nm 0 rfl) true) (E.cast (e_not (e_nm 1 rfl)) rfl) pe_no))), .dat rfl, trivial⟩
    | some qb =>
      obtain ⟨q, b⟩ := qb
      exact .inl ⟨_, _, ss_cons (s_ifF (t_nt (t_val (e_isi true "bool" (e_nm 1 rfl) N.bool N.isinstance rfl))) pss_no ss_nil) (ss_one (s_ret (e_ifF (t_isN (e_nm 0 rfl) false) pe_no (e_call C hr (a_cons (e_nm 0 rfl) a_nil) rfl ⟨q, rfl, rfl⟩)))), .dat rfl, trivial⟩
end
end G
end EX3
section EX4
set_option Elab.async false
set_option linter.all false
set_option maxRecDepth 100000
set_option maxHeartbeats 4000000
set_option exponentiation.threshold 300000
namespace G
open PySem PySem.Spec PyProof.Rows L2
theorem noL_num (q : Rat) : noL (num q) = true := rfl
theorem noL_cu (c : Cut) : noL (cuD c) = true := rfl
def pairD (p : Cut × Cut) : PyData := .tuple [cuD p.1, cuD p.2]
theorem noL_pairD (p : Cut × Cut) : noL (pairD p) = true := rfl
theorem noL_oD (o : Option (Rat × Bool)) : noLs (oD o) = true := by
  cases o <;> rfl
theorem noL_rgD (r : Rg) : noL (rgD r) = true := noLs_app (noL_oD r.lo) (noL_oD r.hi)
structure Consts (K : PySem.W.Frag) (mg : Str → Option Value) : Prop where
  zero : GC K mg "ZERO" (num 0)
  one : GC K mg "ONE" (num 1)
  bot : GC K mg "BOTTOM" (cuD BOT)
  top : GC K mg "TOP" (cuD TOPC)
  parts : GC K mg "MAX_PARTS" (.int 8)
  count : GC K mg "MAX_COUNT" (.int 9)
section
variable {P : Program} {w : World} {K : PySem.W.Frag} {mg : Str → Option Value} {base : Heap}
theorem s_setP {X : Cx} {δ : Ab} {a : AV} {e : Expr} {x : Str} {pos pos' : Pos} (i : Nat) (hN : X.N.Nodup) (he : E X e δ a δ) (hsf : slFree δ = true := by rfl) (hst : a.store = true := by rfl) (hi' : Nat.blt i δ.length = true := by rfl) (hx : X.N[i]? = some x := by rfl) (hL : Loc X.env.scope x := by first | exact .inl rfl | exact .inr rfl) (hs : swapsWith e (some (.Name x pos')) pos.line X.env = pure false := by rfl) (hf : X.fn x = true ∨ X.env.scope.names.lookup x = some .local := by first | exact .inl rfl | exact .inr rfl | assumption) :
    S X (.Assign [.Name x pos'] e pos) δ (.nx (δ.set i (some a))) := s_set i hN he hsf hst hi' hx hL hs hf
/-- the two cuts of a range -/
def cutsOf (r : Rg) : Cut × Cut := (cutLo r.lo, cutHi r.hi)
def R_cuts (as : List AV) (a : AV) : Prop := ∃ r : Rg, as = [.dat (rgD r)] ∧ a = .dat (pairD (cutsOf r))
abbrev sCuts : Stmt := top 31
theorem scCuts : FnScope ["one", "low", "high"] ["one"] (defScope sCuts) := ⟨rfl, rfl, rfl, by decide +kernel, rfl, by decide +kernel, by decide +kernel⟩
theorem c_cuts {f : Addr} {fd : FuncData} (D : DefAt K mg "cuts_of" sCuts ["one"] f fd) (C : Consts K mg) : Cal P w K mg base "cuts_of" 1 (spP K R_cuts) := by
  refine D.cal (pure_ok D.F scCuts (fun as a h => ?_) fun as a h cdv A outer s H Ex hr => ?_)
  · obtain ⟨r, rfl, _⟩ := h
    rfl
  · obtain ⟨⟨lo, hi⟩, rfl, rfl⟩ := h
    refine .inl ⟨_, _, ss_cons (s_setP (a := dc (cutLo lo)) 1 scCuts.nd ?_) (ss_cons (s_setP (a := dc (cutHi hi)) 2 scCuts.nd ?_) (ss_one (s_ret (E.cast (e_tup (a_cons (e_nm 1 rfl) (a_cons (e_nm 2 rfl) a_nil)) rfl) rfl)))), .dat rfl, trivial⟩
    · cases lo with
      | none => cases hi <;> exact e_ifT (t_isN (e_ixT (e_nm 0 rfl) e_int rfl) true) (e_gc C.bot) pe_no
      | some qb =>
        obtain ⟨q, b⟩ := qb
        cases hi <;> exact e_ifF (t_isN (e_ixT (e_nm 0 rfl) e_int rfl) false) pe_no (E.cast (e_tup (a_cons e_int (a_cons (e_ixT (e_nm 0 rfl) e_int rfl) (a_cons (e_if (a := di (if b then 0 else 1)) (t_val (e_ixT (e_nm 0 rfl) e_int rfl)) (fun h => by subst h; exact e_int) (fun h => by subst h; exact e_int)) a_nil))) rfl) rfl)
    · cases hi with
      | none => cases lo <;> exact e_ifT (t_isN (e_ixT (e_nm 0 rfl) e_int rfl) true) (e_gc C.top) pe_no
      | some qb =>
        obtain ⟨q, b⟩ := qb
        cases lo <;> exact e_ifF (t_isN (e_ixT (e_nm 0 rfl) e_int rfl) false) pe_no (E.cast (e_tup (a_cons e_int (a_cons (e_ixT (e_nm 0 rfl) e_int rfl) (a_cons (e_if (a := di (if b then 1 else 0)) (t_val (e_ixT (e_nm 0 rfl) e_int rfl)) (fun h => by subst h; exact e_int) (fun h => by subst h; exact e_int)) a_nil))) rfl) rfl)
def smRg (r : Rg) : Prop := smO r.lo ∧ smO r.hi
theorem sm0 : Sm 0 := ⟨by decide, by decide⟩
theorem sm_cutLo {o : Option (Rat × Bool)} (h : smO o) : Sm (cutLo o).q := by
  cases o with
  | none => exact sm0
  | some qb => exact h
theorem sm_cutHi {o : Option (Rat × Bool)} (h : smO o) : Sm (cutHi o).q := by
  cases o with
  | none => exact sm0
  | some qb => exact h
def R_isrange (as : List AV) (a : AV) : Prop := ∃ r : Rg, as = [.dat (rgD r)] ∧ smRg r ∧ a = db (cb (cutLo r.lo) (cutHi r.hi))
abbrev sIsrange : Stmt := top 32
theorem scIsrange : FnScope ["value", "low", "high"] ["value"] (defScope sIsrange) := ⟨rfl, rfl, rfl, by decide +kernel, rfl, by decide +kernel, by decide +kernel⟩
theorem c_isrange {f : Addr} {fd : FuncData} (D : DefAt K mg "is_range" sIsrange ["value"] f fd) (N : NoG mg) (C1 : Cal P w K mg base "is_end" 3 (spP K R_isend)) (C2 : Cal P w K mg base "cuts_of" 1 (spP K R_cuts)) (C3 : Cal P w K mg base "comes_before" 2 (spP K R_cb)) : Cal P w K mg base "is_range" 4 (spP K R_isrange) := by
  refine D.cal (pure_ok D.F scIsrange (fun as a h => ?_) fun as a h cdv A outer s H Ex hr => ?_)
  · obtain ⟨r, rfl, _⟩ := h
    rfl
  · obtain ⟨⟨lo, hi⟩, rfl, ⟨s1, s2⟩, rfl⟩ := h
    rcases lo with _ | ⟨q, b⟩ <;> rcases hi with _ | ⟨q2, b2⟩ <;>
      exact .inl ⟨_, _, ss_cons (s_ifF (w_pt (w_orF (t_nt (t_val (e_isi true "tuple" (e_nm 0 rfl) N.tuple N.isinstance rfl))) (w_or1 (t_neF (e_len (e_nm 0 rfl) rfl N.len) e_int)))) pss_no ss_nil)
          (ss_cons (s_ifF (w_pt (w_orF (t_nt (t_val (e_call C1 hr (a_cons (e_ixT (e_nm 0 rfl) e_int rfl) (a_cons (e_ixT (e_nm 0 rfl) e_int rfl) a_nil)) rfl (by first | exact ⟨none, rfl, rfl⟩ | exact ⟨some (_, _), rfl, rfl⟩)))) (w_or1 (t_nt (t_val (e_call C1 hr (a_cons (e_ixT (e_nm 0 rfl) e_int rfl) (a_cons (e_ixT (e_nm 0 rfl) e_int rfl) a_nil)) rfl (by first | exact ⟨none, rfl, rfl⟩ | exact ⟨some (_, _), rfl, rfl⟩))))))) pss_no ss_nil)
          (ss_cons (s_tup (js := [1, 2]) (e_call C2 (hr.mono (by decide)) (a_cons (e_nm 0 rfl) a_nil) rfl ⟨_, rfl, rfl⟩) (pgs_cons (pg_name scIsrange.nd rfl (.inl rfl)) (pgs_cons (pg_name scIsrange.nd rfl (.inl rfl)) pgs_nil)) ⟨rfl, rfl, trivial⟩)
          (ss_one (s_ret (e_call C3 (hr.mono (by decide)) (a_cons (e_nm 1 rfl) (a_cons (e_nm 2 rfl) a_nil)) rfl ⟨_, _, rfl, ⟨sm_cutLo s1, sm_cutHi s2⟩, rfl⟩))))), .dat rfl, trivial⟩
def rgOf (c d : Cut) : Rg := ⟨if c.k ≠ 0 then none else some (c.q, decide (c.s = 0)), if d.k ≠ 0 then none else some (d.q, decide (d.s = 1))⟩
def R_rangeof (as : List AV) (a : AV) : Prop := ∃ c d : Cut, as = [dc c, dc d] ∧ a = .dat (rgD (rgOf c d))
abbrev sRangeof : Stmt := top 33
theorem scRangeof : FnScope ["low", "high", "first", "last"] ["low", "high"] (defScope sRangeof) := ⟨rfl, rfl, rfl, by decide +kernel, rfl, by decide +kernel, by decide +kernel⟩
theorem c_rangeof {f : Addr} {fd : FuncData} (D : DefAt K mg "range_of" sRangeof ["low", "high"] f fd) : Cal P w K mg base "range_of" 1 (spP K R_rangeof) := by
  refine D.cal (pure_ok D.F scRangeof (fun as a h => ?_) fun as a h cdv A outer s H Ex hr => ?_)
  · obtain ⟨c, d, rfl, _⟩ := h
    rfl
  · obtain ⟨c, d, rfl, rfl⟩ := h
    refine .inl ⟨_, _, ss_cons (s_setP (a := .dat (.tuple (oD (rgOf c d).lo))) 2 scRangeof.nd (e_if (t_neI (e_ixT (e_nm 0 rfl) e_int rfl) e_int) (fun h => E.cast (e_tup (a_cons e_none (a_cons e_bool a_nil)) rfl) ?_) (fun h => E.cast (e_tup (a_cons (e_ixT (e_nm 0 rfl) e_int rfl) (a_cons (e_eqI (e_ixT (e_nm 0 rfl) e_int rfl) e_int) a_nil)) rfl) ?_)))
      (ss_cons (s_setP (a := .dat (.tuple (oD (rgOf c d).hi))) 3 scRangeof.nd (e_if (t_neI (e_ixT (e_nm 1 rfl) e_int rfl) e_int) (fun h => E.cast (e_tup (a_cons e_none (a_cons e_bool a_nil)) rfl) ?_) (fun h => E.cast (e_tup (a_cons (e_ixT (e_nm 1 rfl) e_int rfl) (a_cons (e_eqI (e_ixT (e_nm 1 rfl) e_int rfl) e_int) a_nil)) rfl) ?_)))
      (ss_one (s_ret (e_catT (e_nm 2 rfl) (e_nm 3 rfl) (noL_oD _) (noL_oD _) ?_)))), .dat (noL_rgD _), trivial⟩
    · have hk : c.k ≠ 0 := by simpa using h
      unfold rgOf
      simp only [if_pos hk]
      rfl
    · have hk : ¬ c.k ≠ 0 := by simpa using h
      unfold rgOf
      simp only [if_neg hk]
      rfl
    · have hk : d.k ≠ 0 := by simpa using h
      unfold rgOf
      simp only [if_pos hk]
      rfl
    · have hk : ¬ d.k ≠ 0 := by simpa using h
      unfold rgOf
      simp only [if_neg hk]
      rfl
    · have : ∀ o, (oD o).length = 2 := fun o => by cases o <;> rfl
      rw [this, this]
      decide
end
end G
end EX4
section EX5
set_option Elab.async false
set_option linter.all false
set_option maxRecDepth 100000
set_option maxHeartbeats 4000000
set_option exponentiation.threshold 300000
namespace G
open PySem PySem.Spec PyProof.Rows L2
/-! ### places, slices -/
theorem atI_nat {α : Type} {xs : List α} {k : Nat} (h : k < xs.length) : atI xs (k : Int) = xs[k]? := by
  unfold atI ixN
  rw [if_pos (by omega), if_pos (by omega)]
  rfl
theorem atI_last {α : Type} {xs : List α} {x : α} : atI (xs ++ [x]) (-1) = some x := by
  unfold atI ixN
  rw [if_neg (by omega), if_pos (by simp; omega)]
  have : ((-1 : Int) + ((xs ++ [x]).length : Nat)).toNat = xs.length := by simp; omega
  rw [this]
  simp
theorem cutD_to {ds : List PyData} {k : Nat} (h : k ≤ ds.length) : cutD ds none (some (k : Int)) = ds.take k := by
  unfold cutD
  rw [HT.sIx_nat, HT.sIx_none, List.drop_zero, Nat.sub_zero, Nat.min_eq_left h]
theorem cutD_from {ds : List PyData} {k : Nat} (h : k ≤ ds.length) : cutD ds (some (k : Int)) none = ds.drop k := by
  unfold cutD
  rw [HT.sIx_nat, HT.sIx_none, Nat.min_eq_left h]
  exact List.take_of_length_le (by rw [List.length_drop]; exact Nat.le_refl _)
theorem noLs_map {α : Type} {f : α → PyData} (h : ∀ x, noL (f x) = true) (xs : List α) : noLs (xs.map f) = true := noLs_of fun d hd => by
  obtain ⟨x, _, rfl⟩ := List.mem_map.mp hd
  exact h x
abbrev Pr := Cut × Cut
/-! ### in_order -/
def posP (F : List Pr) (p : Pr) : Nat → Nat
  | 0 => 0
  | n + 1 => if cb p.1 (F.getD n p).1 = true then posP F p n else n + 1
theorem posP_le {F : List Pr} {p : Pr} : ∀ n, posP F p n ≤ n
  | 0 => Nat.le_refl _
  | n + 1 => by
    unfold posP
    split
    · exact Nat.le_succ_of_le (posP_le n)
    · exact Nat.le_refl _
def insP (F : List Pr) (p : Pr) : List Pr := F.take (posP F p F.length) ++ [p] ++ F.drop (posP F p F.length)
theorem insP_len (F : List Pr) (p : Pr) : (insP F p).length = F.length + 1 := by
  unfold insP
  simp only [List.length_append, List.length_take, List.length_drop, List.length_singleton]
  have := posP_le (F := F) (p := p) F.length
  omega
def ordP (ps : List Pr) : List Pr := ps.foldl insP []
theorem foldl_take {α β : Type} {f : β → α → β} {b : β} {xs : List α} {i : Nat} {x : α} (h : xs[i]? = some x) : (xs.take (i + 1)).foldl f b = f ((xs.take i).foldl f b) x := by
  rw [List.take_add_one, h, List.foldl_append]
  rfl
def smPr (p : Pr) : Prop := Sm p.1.q ∧ Sm p.2.q
theorem insP_all {P : Pr → Prop} {F : List Pr} {p : Pr} (h : ∀ x ∈ F, P x) (hp : P p) : ∀ x ∈ insP F p, P x := fun x hx => by
  unfold insP at hx
  rcases List.mem_append.mp hx with hx | hx
  · rcases List.mem_append.mp hx with hx | hx
    · exact h x (List.mem_of_mem_take hx)
    · rw [List.mem_singleton.mp hx]
      exact hp
  · exact h x (List.mem_of_mem_drop hx)
theorem ordP_all {P : Pr → Prop} : ∀ {ps F : List Pr}, (∀ x ∈ F, P x) → (∀ x ∈ ps, P x) → ∀ x ∈ ps.foldl insP F, P x
  | [], _, h, _ => h
  | p :: ps, F, h, h2 => ordP_all (ps := ps) (insP_all h (h2 p List.mem_cons_self)) fun x hx => h2 x (List.mem_cons_of_mem _ hx)
theorem ordP_len : ∀ {ps F : List Pr}, (ps.foldl insP F).length = F.length + ps.length
  | [], _ => rfl
  | p :: ps, F => by
    rw [List.foldl_cons, ordP_len (ps := ps), insP_len, List.length_cons]
    omega
section
variable {P : Program} {w : World} {K : PySem.W.Frag} {mg : Str → Option Value} {base : Heap}
def R_ord (as : List AV) (a : AV) : Prop := ∃ ps : List Pr, as = [.dat (.list (ps.map pairD))] ∧ (ps.length < 1000 ∧ ∀ p ∈ ps, smPr p) ∧ a = .lst none ((ordP ps).map pairD)
abbrev sOrd : Stmt := top 34
theorem scOrd : FnScope ["pairs", "found", "pair", "place"] ["pairs"] (defScope sOrd) := ⟨rfl, rfl, rfl, by decide +kernel, rfl, by decide +kernel, by decide +kernel⟩
theorem c_ord {f : Addr} {fd : FuncData} (D : DefAt K mg "in_order" sOrd ["pairs"] f fd) (N : NoG mg) (C : Cal P w K mg base "comes_before" 2 (spP K R_cb)) : Cal P w K mg base "in_order" 3 (spP K R_ord) := by
  refine D.cal (pure_ok D.F scOrd (fun as a h => ?_) fun as a h cdv A outer s H Ex hr => ?_)
  · obtain ⟨ps, rfl, _⟩ := h
    rfl
  · obtain ⟨ps, rfl, ⟨hlen, hsm⟩, rfl⟩ := h
    refine .inl ⟨_, _, ss_cons (s_setP (a := .lst none []) 1 scOrd.nd (e_list a_nil rfl))
      (ss_cons (s_forL (st := fun i => [some (.dat (.list (ps.map pairD))), some (.lst none ((ordP (ps.take i)).map pairD)), none, none]) (δd := fun i d => [some (.dat (.list (ps.map pairD))), some (.lst none ((ordP (ps.take i)).map pairD)), some (.dat d), none])
        (e_nm 0 rfl) rfl rfl ⟨rfl, rfl, trivial⟩ rfl (pg_name (i := 2) scOrd.nd rfl (.inl rfl)) (fun i d hi => tgx_name rfl) (fun i d hi => rfl) fun i d hi => ?_)
      (ss_one (s_ret (e_nm 1 rfl)))), ?_, trivial⟩
    · rw [List.getElem?_map, Option.map_eq_some_iff] at hi
      obtain ⟨p, hi, rfl⟩ := hi
      have hF : ∀ x ∈ ordP (ps.take i), smPr x := ordP_all (fun _ h => by simp at h) fun x hx => hsm x (List.mem_of_mem_take hx)
      have hFl : (ordP (ps.take i)).length ≤ ps.length := by
        unfold ordP
        rw [ordP_len, List.length_take]
        simp
        omega
      have hnext : ordP (ps.take (i + 1)) = insP (ordP (ps.take i)) p := foldl_take hi
      have hp : smPr p := hsm p (List.mem_of_getElem? hi)
      rw [hnext]
      generalize ordP (ps.take i) = F at *
      have hml : (F.map pairD).length = F.length := List.length_map _
      have hno : noLs (F.map pairD) = true := noLs_map noL_pairD _
      refine ss_cons (s_setP (a := di F.length) 3 scOrd.nd (E.cast (e_len (e_nm 1 rfl) rfl N.len) (by rw [hml])))
        (ss_cons (s_while (δ' := [some (.dat (.list (ps.map pairD))), some (.lst none (F.map pairD)), some (.dat (pairD p)), some (di (posP F p F.length))]) (fun n : Nat => [some (.dat (.list (ps.map pairD))), some (.lst none (F.map pairD)), some (.dat (pairD p)), some (di n)]) (fun n => n ≤ F.length ∧ posP F p n = posP F p F.length) id
          (fun n => decide ((0 : Int) < n) && cb p.1 (F.getD (n - 1) p).1) F.length ⟨Nat.le_refl _, rfl⟩ (Le.refl _) (fun n hn => ?_) (fun n hn hb => ?_) (fun n hn hb => ?_))
        (ss_one (S.is (s_le (δ2 := [some (.dat (.list (ps.map pairD))), some (.lst none ((insP F p).map pairD)), none, none]) (s_setP (a := .lst none ((insP F p).map pairD)) 1 scOrd.nd (E.cast (e_cat (e_cat (e_slL (e_nm 1 rfl) o_none (o_some (e_nm 3 rfl)) rfl hno) (e_list (a_cons (e_nm 2 rfl) a_nil) rfl) ?_) (e_slL (e_nm 1 rfl) (o_some (e_nm 3 rfl)) o_none rfl hno) ?_) ?_)) ⟨rfl, rfl, trivial⟩) rfl)))
      · refine w_pt (w_and' (t_gt (e_nm 3 rfl) e_int) fun h => w_and1 (t_val (e_call C (hr.mono (by decide)) (a_cons (e_ixT (e_nm 2 rfl) e_int rfl) (a_cons (e_ixT (e_ixL (d := pairD (F.getD (n - 1) p)) (e_nm 1 rfl) (e_sub (e_nm 3 rfl) e_int) ?_) e_int rfl) a_nil)) rfl ⟨p.1, (F.getD (n - 1) p).1, rfl, ⟨hp.1, ?_⟩, rfl⟩)))
        · have hn0 : 0 < n := by simpa using h
          have e : ((n : Int) - 1) = ((n - 1 : Nat) : Int) := by omega
          show atI (F.map pairD) ((n : Int) - 1) = _
          rw [e, atI_nat (by rw [hml]; have := hn.1; omega), List.getElem?_map, List.getD_eq_getElem?_getD, List.getElem?_eq_getElem (by have := hn.1; omega)]
          rfl
        · have hn0 : 0 < n := by simpa using h
          rw [List.getD_eq_getElem?_getD, List.getElem?_eq_getElem (by have := hn.1; omega)]
          exact (hF _ (List.getElem_mem _)).1
      · rw [Bool.and_eq_true] at hb
        have hn0 : 0 < n := by simpa using hb.1
        obtain ⟨m, rfl⟩ : ∃ m, n = m + 1 := ⟨n - 1, by omega⟩
        refine ⟨m, ⟨by omega, ?_⟩, Nat.lt_succ_self m, ss_one (S.is (s_augI 3 ip_sub rfl e_int scOrd.nd) ?_)⟩
        · rw [← hn.2, posP, if_pos (by simpa using hb.2)]
        · show Out.nx [_, _, _, some (di (((m + 1 : Nat) : Int) - 1))] = _
          rw [show (((m + 1 : Nat) : Int) - 1) = m by omega]
      · have e : posP F p F.length = n := by
          rw [← hn.2]
          cases n with
          | zero => rfl
          | succ m =>
            rw [posP, if_neg]
            intro q
            rw [show m + 1 - 1 = m from rfl, q, Bool.and_true] at hb
            exact of_decide_eq_false hb (by omega)
        rw [e]
        exact Le.refl _
      · rw [cutD_to (by rw [hml]; exact posP_le _), List.length_take]
        show min _ _ + 1 ≤ _
        omega
      · rw [cutD_to (by rw [hml]; exact posP_le _), cutD_from (by rw [hml]; exact posP_le _), List.length_append, List.length_take, List.length_drop]
        show min _ _ + 1 + _ ≤ _
        omega
      · rw [cutD_to (by rw [hml]; exact posP_le _), cutD_from (by rw [hml]; exact posP_le _)]
        unfold insP
        rw [List.map_append, List.map_append, List.map_take, List.map_drop]
        rfl
    · refine .sl (i := 1) ?_
      rw [List.length_map, List.take_length]
      rfl
end
end G
end EX5
section EX6
set_option Elab.async false
set_option linter.all false
set_option maxRecDepth 100000
set_option maxHeartbeats 4000000
set_option exponentiation.threshold 300000
namespace G
open PySem PySem.Spec PyProof.Rows L2
/-! ### shapes of lists -/
theorem shp_all {n : Nat} : ∀ {ds : List PyData}, (∀ d ∈ ds, Shp n d) → PyData.canLayAll0 ds = true ∧ PyData.depthAll ds ≤ n
  | [], _ => ⟨rfl, Nat.zero_le _⟩
  | d :: ds, h => by
    obtain ⟨h1, h2⟩ := shp_all fun e he => h e (List.mem_cons_of_mem _ he)
    obtain ⟨h3, h4⟩ := h d List.mem_cons_self
    refine ⟨by rw [PyData.canLayAll0, h3, h1]; rfl, ?_⟩
    simp only [PyData.depthAll]
    omega
theorem shp_list {n : Nat} {ds : List PyData} (h : ∀ d ∈ ds, Shp n d) : Shp (n + 1) (.list ds) := by
  obtain ⟨h1, h2⟩ := shp_all h
  refine ⟨h1, ?_⟩
  simp only [PyData.depth]
  omega
theorem shp_tup {n : Nat} {ds : List PyData} (h : ∀ d ∈ ds, Shp n d) : Shp (n + 1) (.tuple ds) := by
  obtain ⟨h1, h2⟩ := shp_all h
  refine ⟨h1, ?_⟩
  simp only [PyData.depth]
  omega
theorem shp_map {α : Type} {n : Nat} {f : α → PyData} (h : ∀ x, Shp n (f x)) (xs : List α) : Shp (n + 1) (.list (xs.map f)) := shp_list fun d hd => by
  obtain ⟨x, _, rfl⟩ := List.mem_map.mp hd
  exact h x
theorem shp_int {i : Int} : Shp 2 (.int i) := ⟨rfl, by simp [PyData.depth]⟩
theorem shp_cu (c : Cut) : Shp 3 (cuD c) := shp_tup fun d hd => by
  simp only [List.mem_cons, List.not_mem_nil, or_false] at hd
  rcases hd with rfl | rfl | rfl
  · exact shp_int
  · exact shp_num
  · exact shp_int
theorem shp_pair (p : Pr) : Shp 4 (pairD p) := shp_tup fun d hd => by
  simp only [List.mem_cons, List.not_mem_nil, or_false] at hd
  rcases hd with rfl | rfl
  · exact shp_cu _
  · exact shp_cu _
theorem shp_nil : Shp 1 (.list []) := shp_list (n := 0) fun d hd => by simp at hd
theorem eqv_nil {ds : List PyData} : PyData.eqv (.list ds) (.list []) = ds.isEmpty := by
  cases ds <;> rfl
/-! ### joined_pairs -/
def joinS (F : List Pr) (p : Pr) : List Pr := match F.getLast? with
  | none => [p]
  | some l => if cb l.2 p.1 = true then F ++ [p] else F.dropLast ++ [(l.1, later l.2 p.2)]
def joinP (ps : List Pr) : List Pr := (ordP ps).foldl joinS []
theorem joinS_app (G : List Pr) (l p : Pr) : joinS (G ++ [l]) p = if cb l.2 p.1 = true then G ++ [l] ++ [p] else G ++ [(l.1, later l.2 p.2)] := by
  unfold joinS
  simp
theorem joinS_len {F : List Pr} {p : Pr} : (joinS F p).length ≤ F.length + 1 := by
  rcases List.eq_nil_or_concat F with rfl | ⟨G, l, rfl⟩
  · exact Nat.le_refl _
  · rw [List.concat_eq_append, joinS_app]
    split <;> simp
theorem joinF_len : ∀ {ps F : List Pr}, (ps.foldl joinS F).length ≤ F.length + ps.length
  | [], _ => Nat.le_refl _
  | p :: ps, F => by
    rw [List.foldl_cons]
    have := joinF_len (ps := ps) (F := joinS F p)
    have := joinS_len (F := F) (p := p)
    rw [List.length_cons]
    omega
theorem later_or (c d : Cut) : later c d = c ∨ later c d = d := by
  unfold later
  split <;> simp
theorem joinS_sm {F : List Pr} {p : Pr} (h : ∀ x ∈ F, smPr x) (hp : smPr p) : ∀ x ∈ joinS F p, smPr x := by
  rcases List.eq_nil_or_concat F with rfl | ⟨G, l, rfl⟩
  · intro x hx
    rw [List.mem_singleton.mp (show x ∈ [p] from hx)]
    exact hp
  · rw [List.concat_eq_append] at h ⊢
    rw [joinS_app]
    have hl : smPr l := h l (by simp)
    intro x hx
    split at hx
    · rcases List.mem_append.mp hx with hx | hx
      · exact h x hx
      · rw [List.mem_singleton.mp hx]
        exact hp
    · rcases List.mem_append.mp hx with hx | hx
      · exact h x (List.mem_append_left _ hx)
      · rw [List.mem_singleton.mp hx]
        refine ⟨hl.1, ?_⟩
        rcases later_or l.2 p.2 with e | e <;> (show Sm (later l.2 p.2).q; rw [e])
        · exact hl.2
        · exact hp.2
theorem joinF_sm : ∀ {ps F : List Pr}, (∀ x ∈ F, smPr x) → (∀ x ∈ ps, smPr x) → ∀ x ∈ ps.foldl joinS F, smPr x
  | [], _, h, _ => h
  | p :: ps, F, h, h2 => joinF_sm (ps := ps) (joinS_sm h (h2 p List.mem_cons_self)) fun x hx => h2 x (List.mem_cons_of_mem _ hx)
section
variable {P : Program} {w : World} {K : PySem.W.Frag} {mg : Str → Option Value} {base : Heap}
def R_join (as : List AV) (a : AV) : Prop := ∃ ps : List Pr, as = [.dat (.list (ps.map pairD))] ∧ (ps.length < 1000 ∧ ∀ p ∈ ps, smPr p) ∧ a = .lst none ((joinP ps).map pairD)
abbrev sJoin : Stmt := top 35
theorem scJoin : FnScope ["pairs", "found", "low", "high"] ["pairs"] (defScope sJoin) := ⟨rfl, rfl, rfl, by decide +kernel, rfl, by decide +kernel, by decide +kernel⟩
theorem c_join {f : Addr} {fd : FuncData} (D : DefAt K mg "joined_pairs" sJoin ["pairs"] f fd) (N : NoG mg) (C : Cal P w K mg base "comes_before" 2 (spP K R_cb)) (C2 : Cal P w K mg base "in_order" 3 (spP K R_ord)) (C3 : Cal P w K mg base "later_cut" 3 (spP K (R_cut2 later))) : Cal P w K mg base "joined_pairs" 4 (spP K R_join) := by
  refine D.cal (pure_ok D.F scJoin (fun as a h => ?_) fun as a h cdv A outer s H Ex hr => ?_)
  · obtain ⟨ps, rfl, _⟩ := h
    rfl
  · obtain ⟨ps, rfl, ⟨hlen, hsm⟩, rfl⟩ := h
    have hol : (ordP ps).length = ps.length := by
      unfold ordP
      rw [ordP_len]
      simp
    have hosm : ∀ x ∈ ordP ps, smPr x := ordP_all (fun _ h => by simp at h) hsm
    refine .inl ⟨_, _, ss_cons (s_setP (a := .lst none []) 1 scJoin.nd (e_list a_nil rfl))
      (ss_cons (s_forL (js := [2, 3]) (st := fun i => [some (.dat (.list (ps.map pairD))), some (.lst none ((((ordP ps).take i).foldl joinS []).map pairD)), none, none]) (δd := fun i d => [some (.dat (.list (ps.map pairD))), some (.lst none ((((ordP ps).take i).foldl joinS []).map pairD)), some (.dat (tat d 0)), some (.dat (tat d 1))])
        (e_call C2 (hr.mono (by decide)) (a_cons (e_nm 0 rfl) a_nil) rfl ⟨ps, rfl, ⟨hlen, hsm⟩, rfl⟩) rfl rfl ⟨rfl, rfl, trivial⟩ rfl (pg_tup rfl (pgs_cons (pg_name (i := 2) scJoin.nd rfl (.inl rfl)) (pgs_cons (pg_name (i := 3) scJoin.nd rfl (.inl rfl)) pgs_nil))) (fun i d hi => ?_) (fun i d hi => rfl) fun i d hi => ?_)
      (ss_one (s_ret (e_nm 1 rfl)))), ?_, trivial⟩
    · obtain ⟨p, hip, rfl⟩ := map_at hi
      exact tgx_tup (js := [2, 3]) ⟨rfl, rfl, trivial⟩ rfl
    · obtain ⟨p, hip, rfl⟩ := map_at hi
      have hF : ∀ x ∈ ((ordP ps).take i).foldl joinS [], smPr x := joinF_sm (fun _ h => by simp at h) fun x hx => hosm x (List.mem_of_mem_take hx)
      have hFl : (((ordP ps).take i).foldl joinS []).length ≤ ps.length := by
        refine Nat.le_trans joinF_len ?_
        rw [List.length_take]
        simp
        omega
      have hp : smPr p := hosm p (List.mem_of_getElem? hip)
      have hnext : ((ordP ps).take (i + 1)).foldl joinS [] = joinS (((ordP ps).take i).foldl joinS []) p := foldl_take hip
      rw [hnext]
      generalize ((ordP ps).take i).foldl joinS [] = F at *
      rcases List.eq_nil_or_concat F with rfl | ⟨G, l, rfl⟩
      · exact ss_one (S.is (s_le (δ2 := [some (.dat (.list (ps.map pairD))), some (.lst none ([p].map pairD)), none, none]) (s_ifF (w_pt (w_andF (T.cast (t_neG hr.units (e_nm 1 rfl) (e_list a_nil rfl) rfl rfl (shp_nil.shaped (by decide)) (shp_nil.shaped (by decide))) rfl) pw_no)) pss_no
          (ss_one (s_append 1 (e_tup (a_cons (e_nm 2 rfl) (a_cons (e_nm 3 rfl) a_nil)) rfl) rfl rfl rfl rfl (by decide)))) ⟨rfl, rfl, trivial⟩) rfl)
      · rw [List.concat_eq_append] at *
        have hl : smPr l := hF l (by simp)
        have hne : ((G ++ [l]).map pairD).isEmpty = false := by simp
        have hlast : ixLV [some (AV.dat (.list (ps.map pairD))), some (.lst none ((G ++ [l]).map pairD)), some (.dat (cuD p.1)), some (.dat (cuD p.2))] (.sl 1) (-1) = some (pairD l) := by
          show atI ((G ++ [l]).map pairD) (-1) = _
          rw [List.map_append]
          exact atI_last
        have hTest : T (cxOf CX0 P w K mg base ["pairs", "found", "low", "high"] "joined_pairs" (defScope sJoin) f cdv A outer s H Ex).nox
            (match (match (defBody sJoin).getD 1 (.Pass ⟨0, 0, 0, 0⟩) with | .For _ _ b _ _ => b | _ => []).getD 0 (.Pass ⟨0, 0, 0, 0⟩) with | .If e _ _ _ => e | _ => .Constant .none 0 ⟨0, 0, 0, 0⟩)
            [some (AV.dat (.list (ps.map pairD))), some (.lst none ((G ++ [l]).map pairD)), some (.dat (cuD p.1)), some (.dat (cuD p.2))] (!cb l.2 p.1) [some (AV.dat (.list (ps.map pairD))), some (.lst none ((G ++ [l]).map pairD)), some (.dat (cuD p.1)), some (.dat (cuD p.2))] :=
          w_pt (w_andT (T.cast (t_neG hr.units (e_nm 1 rfl) (e_list a_nil rfl) rfl rfl ((shp_map shp_pair _).shaped (by decide)) (shp_nil.shaped (by decide))) (by rw [eqv_nil, hne]; rfl))
            (w_and1 (t_not (t_val (e_call C (hr.mono (by decide)) (a_cons (e_ixT (e_ixL (e_nm 1 rfl) (e_neg e_int) hlast) e_int rfl) (a_cons (e_nm 2 rfl) a_nil)) rfl ⟨l.2, p.1, rfl, ⟨hl.2, hp.1⟩, rfl⟩)))))
        by_cases hc : cb l.2 p.1 = true
        · rw [joinS_app, if_pos hc, List.map_append (l₂ := [p])]
          exact ss_one (S.is (s_le (δ2 := [some (.dat (.list (ps.map pairD))), some (.lst none ((G ++ [l]).map pairD ++ [pairD p])), none, none]) (s_ifF (T.cast hTest (by rw [hc]; rfl)) pss_no
            (ss_one (s_append 1 (e_tup (a_cons (e_nm 2 rfl) (a_cons (e_nm 3 rfl) a_nil)) rfl) rfl rfl rfl rfl (by rw [List.length_map]; omega)))) ⟨rfl, rfl, trivial⟩) rfl)
        · have e : (G ++ [(l.1, later l.2 p.2)]).map pairD = ((G ++ [l]).map pairD).set G.length (pairD (l.1, later l.2 p.2)) := by
            rw [List.map_append, List.map_append, List.set_append_right _ _ (by rw [List.length_map]; exact Nat.le_refl _), List.length_map, Nat.sub_self]
            rfl
          have hix : ixN ((G ++ [l]).map pairD).length (-1) = some G.length := by
            unfold ixN
            rw [if_neg (by omega), if_pos (by rw [List.length_map, List.length_append]; simp; omega), List.length_map, List.length_append]
            simp
            omega
          rw [joinS_app, if_neg hc, e]
          exact ss_one (S.is (s_le (δ2 := [some (.dat (.list (ps.map pairD))), some (.lst none (((G ++ [l]).map pairD).set G.length (pairD (l.1, later l.2 p.2)))), none, none]) (s_ifT (T.cast hTest (by rw [Bool.eq_false_iff.mpr hc]; rfl))
            (ss_one (s_setL 1 (e_tup (a_cons (e_ixT (e_ixL (e_nm 1 rfl) (e_neg e_int) hlast) e_int rfl) (a_cons (e_call C3 hr (a_cons (e_ixT (e_ixL (e_nm 1 rfl) (e_neg e_int) hlast) e_int rfl) (a_cons (e_nm 3 rfl) a_nil)) rfl ⟨l.2, p.2, rfl, ⟨hl.2, hp.2⟩, rfl⟩) a_nil)) rfl) rfl rfl rfl rfl (e_neg e_int) hix)) pss_no) ⟨rfl, rfl, trivial⟩) rfl)
    · refine .sl (i := 1) ?_
      rw [List.length_map, List.take_length]
      rfl
end
end G
end EX6
section EX7
set_option Elab.async false
set_option linter.all false
set_option maxRecDepth 100000
set_option maxHeartbeats 4000000
set_option exponentiation.threshold 300000
namespace G
open PySem PySem.Spec PyProof.Rows L2
/-- a method of a class, and what a call of it wants -/
structure MethAt (K : PySem.W.Frag) (C : Addr) (x qual : Str) (st : Stmt) (ps : List Str) (f : Addr) (fd : FuncData) : Prop where
  F : Fun K x qual st f fd
  c : Cls K C
  m : Meth K C x f
  b : Binds K fd ps []
theorem MethAt.cal {P : Program} {w : World} {K : PySem.W.Frag} {mg : Str → Option Value} {base : Heap} {C : Addr} {x qual : Str} {st : Stmt} {ps : List Str} {f : Addr} {fd : FuncData} {k : Nat} {sp : Sp} (D : MethAt K C x qual st ps f fd) (h : FnOk P w K mg base CX0 k f fd ps sp) : MCal P w K mg base C x k sp := ⟨f, fd, ps, D.c, D.m, D.b, h⟩
/-- a class -/
structure ClsAt (K : PySem.W.Frag) (mg : Str → Option Value) (C : Addr) (x qual : Str) (st : Stmt) (ps : List Str) (fields : List Str) (f : Addr) (fd : FuncData) : Prop where
  F : Fun K "__init__" qual st f fd
  m : mg x = some (.ref C)
  mks : Mk K C f
  c : Cls K C
  na : ∀ y ∈ fields, NoAttr K C y
  b : Binds K fd ps []
theorem ClsAt.cal {P : Program} {w : World} {K : PySem.W.Frag} {mg : Str → Option Value} {base : Heap} {C : Addr} {x qual : Str} {st : Stmt} {ps fields : List Str} {f : Addr} {fd : FuncData} {k : Nat} {R : List AV → List (Str × PyData) → Prop} (D : ClsAt K mg C x qual st ps fields f fd) (h : FnOk P w K mg base CX0 k f fd ps (spI K C R)) : KCal P w K mg base C x k R := ⟨f, fd, ps, D.m, D.mks, D.b, h⟩
section
variable {P : Program} {w : World} {K : PySem.W.Frag} {mg : Str → Option Value} {base : Heap} {C : Addr}
def R_lies (as : List AV) (a : AV) : Prop := ∃ (q : Rat) (lo hi : Cut), as = [dn q, dc lo, dc hi] ∧ (Sm q ∧ Sm lo.q ∧ Sm hi.q) ∧ a = db (!cb ⟨0, q, 0⟩ lo && !cb hi ⟨0, q, 1⟩)
abbrev sLies : Stmt := top 37
theorem scLies : FnScope ["number", "low", "high"] ["number", "low", "high"] (defScope sLies) := ⟨rfl, rfl, rfl, by decide +kernel, rfl, by decide +kernel, by decide +kernel⟩
theorem c_lies {f : Addr} {fd : FuncData} (D : DefAt K mg "lies_between" sLies ["number", "low", "high"] f fd) (C1 : Cal P w K mg base "comes_before" 2 (spP K R_cb)) (C2 : Cal P w K mg base "below" 1 (spP K (R_mkcut 0))) (C3 : Cal P w K mg base "above" 1 (spP K (R_mkcut 1))) : Cal P w K mg base "lies_between" 3 (spP K R_lies) := by
  refine D.cal (pure_ok D.F scLies (fun as a h => ?_) fun as a h cdv A outer s H Ex hr => ?_)
  · obtain ⟨q, lo, hi, rfl, _⟩ := h
    rfl
  · obtain ⟨q, lo, hi, rfl, ⟨h1, h2, h3⟩, rfl⟩ := h
    exact .inl ⟨_, _, ss_one (s_ret (e_and' (e_not (e_call C1 hr (a_cons (e_call C2 (hr.mono (by decide)) (a_cons (e_nm 0 rfl) a_nil) rfl ⟨q, rfl, rfl⟩) (a_cons (e_nm 1 rfl) a_nil)) rfl ⟨⟨0, q, 0⟩, lo, rfl, ⟨h1, h2⟩, rfl⟩))
      (fun _ => e_and1 (e_not (e_call C1 hr (a_cons (e_nm 2 rfl) (a_cons (e_call C3 (hr.mono (by decide)) (a_cons (e_nm 0 rfl) a_nil) rfl ⟨q, rfl, rfl⟩) a_nil)) rfl ⟨hi, ⟨0, q, 1⟩, rfl, ⟨h3, h1⟩, rfl⟩))))), .dat rfl, trivial⟩
/-! ### Ranges -/
def prRg (p : Pr) : PyData := rgD (rgOf p.1 p.2)
theorem noL_prRg (p : Pr) : noL (prRg p) = true := noL_rgD _
def rgsF (ps : List Pr) : List (Str × PyData) := [("pairs", .tuple (ps.map pairD)), ("ranges", .tuple (ps.map prRg))]
def okRg (r : Rg) : Prop := smRg r ∧ cb (cutLo r.lo) (cutHi r.hi) = true
def R_rinit (as : List AV) (fs : List (Str × PyData)) : Prop := ∃ rs : List Rg, as = [.dat (.list (rs.map rgD))] ∧ (rs.length < 1000 ∧ ∀ r ∈ rs, okRg r) ∧ fs = rgsF (joinP (rs.map cutsOf))
abbrev sRinit : Stmt := inClass (top 36) 0
theorem scRinit : FnScope ["self", "ranges", "one", "low", "high"] ["self", "ranges"] (defScope sRinit) := ⟨rfl, rfl, rfl, by decide +kernel, rfl, by decide +kernel, by decide +kernel⟩
theorem c_rinit {f : Addr} {fd : FuncData} (D : ClsAt K mg C "Ranges" "Ranges.__init__" sRinit ["self", "ranges"] ["pairs", "ranges"] f fd) (N : NoG mg) (C1 : Cal P w K mg base "is_range" 4 (spP K R_isrange)) (C2 : Cal P w K mg base "joined_pairs" 4 (spP K R_join)) (C3 : Cal P w K mg base "cuts_of" 1 (spP K R_cuts)) (C4 : Cal P w K mg base "range_of" 1 (spP K R_rangeof)) : KCal P w K mg base C "Ranges" 5 R_rinit := by
  refine D.cal (init_ok D.F scRinit (fun as a h => ?_) fun as fs h p cdv A outer s H Ex hr => ?_)
  · obtain ⟨rs, rfl, _⟩ := h
    rfl
  · obtain ⟨rs, rfl, ⟨hlen, hok⟩, rfl⟩ := h
    have hjl : (joinP (rs.map cutsOf)).length < 100000 := by
      have := joinF_len (ps := ordP (rs.map cutsOf)) (F := [])
      unfold joinP
      unfold ordP at this ⊢
      rw [ordP_len] at this
      simp at this
      omega
    have hsm : ∀ p ∈ rs.map cutsOf, smPr p := fun p hp => by
      obtain ⟨r, hr, rfl⟩ := List.mem_map.mp hp
      exact ⟨sm_cutLo (hok r hr).1.1, sm_cutHi (hok r hr).1.2⟩
    refine ⟨_, ss_cons (s_ifF (w_pt (w_orF (t_nt (t_val (e_isi true "list" (e_nm 1 rfl) N.list N.isinstance rfl))) (w_or1 (t_nt (t_val (E.cast (e_all (bl := rs.map fun _ => true) rfl
        (E.cast (e_mapL (f := fun _ => .bool true) (xs := rs) (js := [2]) (own := [("one", 2)]) (δd := fun r => [some (.obj p C []), some (.dat (.list (rs.map rgD))), some (.dat (rgD r)), none, none]) scRinit.nd (e_nm 1 rfl) (blkOk_by rfl) rfl (jn1 rfl) (fun s H C cl fp => pg_name (i := 2) scRinit.nd rfl (.inl rfl)) (fun r hr => tgx_name rfl) (fun r hr => Ups.set (j := 2) (d := rgD r) rfl)
          (fun r hm s H C cl fp => E.cast (e_call C1 hr (a_cons (e_nm 2 rfl) a_nil) rfl ⟨r, rfl, (hok r hm).1, rfl⟩) (by rw [(hok r hm).2])) (fun _ => rfl) (by omega) rfl) (a' := .lst none ((rs.map fun _ => true).map PyData.bool)) (by rw [List.map_map]; rfl)) N.all rfl) (a' := db true) (by rw [List.all_map]; exact congrArg db (List.all_eq_true.mpr fun _ _ => rfl)))))))) pss_no ss_nil)
      (ss_cons (s_fld (d := .tuple ((joinP (rs.map cutsOf)).map pairD)) 0 (e_tupleL (ds := (joinP (rs.map cutsOf)).map pairD) (e_call C2 hr (a_cons (e_mapL (f := fun r => pairD (cutsOf r)) (xs := rs) (js := [2]) (own := [("one", 2)]) (δd := fun r => [some (.obj p C []), some (.dat (.list (rs.map rgD))), some (.dat (rgD r)), none, none]) scRinit.nd (e_nm 1 rfl) (blkOk_by rfl) rfl (jn1 rfl) (fun s H C cl fp => pg_name (i := 2) scRinit.nd rfl (.inl rfl)) (fun r hr => tgx_name rfl) (fun r hr => Ups.set (j := 2) (d := rgD r) rfl)
          (fun r hm s H C cl fp => e_call C3 (hr.mono (by decide)) (a_cons (e_nm 2 rfl) a_nil) rfl ⟨r, rfl, rfl⟩) (fun _ => noL_pairD _) (by omega) rfl) a_nil) rfl ⟨rs.map cutsOf, by rw [List.map_map]; rfl, ⟨by rw [List.length_map]; exact hlen, hsm⟩, rfl⟩) N.tuple (noLs_map noL_pairD _)) rfl (noLs_map noL_pairD _) rfl rfl rfl D.c (D.na _ (by simp)) (by simp))
      (ss_one (s_fld (d := .tuple ((joinP (rs.map cutsOf)).map prRg)) 0 (e_tupleL (ds := (joinP (rs.map cutsOf)).map prRg) (e_mapT (f := prRg) (xs := joinP (rs.map cutsOf)) (js := [3, 4]) (own := [("low", 3), ("high", 4)]) (δd := fun q => [some (.obj p C [("pairs", .tuple ((joinP (rs.map cutsOf)).map pairD))]), some (.dat (.list (rs.map rgD))), none, some (dc q.1), some (dc q.2)]) scRinit.nd (e_fldO (e_nm 0 rfl) D.c (D.na _ (by simp)) rfl) (blkOk_by rfl) rfl (jn2 rfl rfl)
          (fun s H C cl fp => pg_tup (n := 2) rfl (pgs_cons (pg_name (i := 3) scRinit.nd rfl (.inl rfl)) (pgs_cons (pg_name (i := 4) scRinit.nd rfl (.inl rfl)) pgs_nil))) (fun q hq => tgx_tup (js := [3, 4]) (ds := [cuD q.1, cuD q.2]) ⟨rfl, rfl, trivial⟩ rfl) (fun q hq => Free.ups (js := [3, 4]) (ds := [cuD q.1, cuD q.2]) ⟨rfl, rfl, trivial⟩)
          (fun q hm s H C cl fp => e_call C4 (hr.mono (by decide)) (a_cons (e_nm 3 rfl) (a_cons (e_nm 4 rfl) a_nil)) rfl ⟨q.1, q.2, rfl, rfl⟩) (fun _ => noL_prRg _) hjl rfl) N.tuple (noLs_map noL_prRg _)) rfl (noLs_map noL_prRg _) rfl rfl rfl D.c (D.na _ (by simp)) (by simp)))), rfl⟩
end
end G
end EX7
section EX8
set_option Elab.async false
set_option linter.all false
set_option maxRecDepth 100000
set_option maxHeartbeats 4000000
set_option exponentiation.threshold 300000
namespace G
open PySem PySem.Spec PyProof.Rows L2
def wfC (c : Cut) : Prop := c = BOT ∨ c = TOPC ∨ (c.k = 0 ∧ (c.s = 0 ∨ c.s = 1))
theorem cuts_rgOf {c d : Cut} (h1 : wfC c) (h2 : wfC d) (h : cb c d = true) : cutsOf (rgOf c d) = (c, d) := by
  have hc : cutLo (rgOf c d).lo = c := by
    rcases h1 with rfl | rfl | ⟨h1, h3⟩
    · rfl
    · exfalso
      rcases h2 with rfl | rfl | ⟨h2, _⟩
      · revert h; decide
      · revert h; decide
      · simp [cb, TOPC, h2] at h
    · obtain ⟨k, q, s⟩ := c
      simp only at h1 h3
      subst h1
      rcases h3 with rfl | rfl <;> rfl
  have hd : cutHi (rgOf c d).hi = d := by
    rcases h2 with rfl | rfl | ⟨h2, h3⟩
    · exfalso
      rcases h1 with rfl | rfl | ⟨h1, _⟩
      · revert h; decide
      · revert h; decide
      · simp [cb, BOT, h1] at h
    · rfl
    · obtain ⟨k, q, s⟩ := d
      simp only at h2 h3
      subst h2
      rcases h3 with rfl | rfl <;> rfl
  unfold cutsOf
  rw [hc, hd]
def okPr (p : Pr) : Prop := smPr p ∧ wfC p.1 ∧ wfC p.2
def cbp (p : Pr) : Bool := cb p.1 p.2
theorem sm_rgOf {p : Pr} (h : smPr p) : smRg (rgOf p.1 p.2) := by
  constructor
  · unfold rgOf
    simp only
    split
    · trivial
    · exact h.1
  · unfold rgOf
    simp only
    split
    · trivial
    · exact h.2
theorem okRg_of {p : Pr} (h : okPr p) (hc : cbp p = true) : okRg (rgOf p.1 p.2) := by
  have e := cuts_rgOf h.2.1 h.2.2 hc
  unfold cutsOf at e
  refine ⟨sm_rgOf h.1, ?_⟩
  rw [(Prod.mk.inj e).1, (Prod.mk.inj e).2]
  exact hc
theorem cuts_filter {ps : List Pr} (h : ∀ p ∈ ps, okPr p) : ((ps.filter cbp).map fun p => rgOf p.1 p.2).map cutsOf = ps.filter cbp := by
  rw [List.map_map]
  conv => rhs; rw [← List.map_id (ps.filter cbp)]
  refine List.map_congr_left fun p hp => ?_
  obtain ⟨h1, h2⟩ := List.mem_filter.mp hp
  exact cuts_rgOf (h p h1).2.1 (h p h1).2.2 h2
def btw (ps : List Pr) : List Pr := joinP (ps.filter cbp)
def okPs (n : Nat) (ps : List Pr) : Prop := ps.length ≤ n ∧ ∀ p ∈ ps, okPr p
section
variable {P : Program} {w : World} {K : PySem.W.Frag} {mg : Str → Option Value} {base : Heap} {C : Addr}
def R_btw (C : Addr) (as : List AV) (a : AV) : Prop := ∃ ps : List Pr, (as = [.dat (.list (ps.map pairD))] ∨ as = [.dat (.tuple (ps.map pairD))]) ∧ okPs 999 ps ∧ a = .ins C (rgsF (btw ps))
abbrev sBtw : Stmt := top 38
theorem scBtw : FnScope ["pairs", "low", "high"] ["pairs"] (defScope sBtw) := ⟨rfl, rfl, rfl, by decide +kernel, rfl, by decide +kernel, by decide +kernel⟩
theorem c_btw {f : Addr} {fd : FuncData} (D : DefAt K mg "between_cuts" sBtw ["pairs"] f fd) (C1 : KCal P w K mg base C "Ranges" 5 R_rinit) (C2 : Cal P w K mg base "range_of" 1 (spP K R_rangeof)) (C3 : Cal P w K mg base "comes_before" 2 (spP K R_cb)) : Cal P w K mg base "between_cuts" 7 (spP K (R_btw C)) := by
  refine D.cal (pure_ok D.F scBtw (fun as a h => ?_) fun as a h cdv A outer s H Ex hr => ?_)
  · obtain ⟨ps, rfl | rfl, _⟩ := h <;> rfl
  · obtain ⟨ps, hv, hok, rfl⟩ := h
    have hR : R_rinit [.dat (.list ((ps.filter cbp).map prRg))] (rgsF (btw ps)) := ⟨(ps.filter cbp).map fun p => rgOf p.1 p.2, by rw [List.map_map]; rfl, ⟨by rw [List.length_map]; exact Nat.lt_of_le_of_lt (List.length_filter_le _ _) (by have := hok.1; omega), fun r hr => by
      obtain ⟨p, hp, rfl⟩ := List.mem_map.mp hr
      obtain ⟨h1, h2⟩ := List.mem_filter.mp hp
      exact okRg_of (hok.2 p h1) h2⟩, by rw [cuts_filter hok.2]; rfl⟩
    rcases hv with rfl | rfl
    · exact .inl ⟨_, _, ss_one (s_ret (e_make C1 hr (a_cons (e_filL (c := cbp) (f := prRg) (xs := ps) (js := [1, 2]) (own := [("low", 1), ("high", 2)]) (δd := fun q => [some (.dat (.list (ps.map pairD))), some (dc q.1), some (dc q.2)]) scBtw.nd (e_nm 0 rfl) (blkOk_by rfl) rfl (jn2 rfl rfl)
          (fun s H C cl fp => pg_tup (n := 2) rfl (pgs_cons (pg_name (i := 1) scBtw.nd rfl (.inl rfl)) (pgs_cons (pg_name (i := 2) scBtw.nd rfl (.inl rfl)) pgs_nil))) (fun q hq => tgx_tup (js := [1, 2]) (ds := [cuD q.1, cuD q.2]) ⟨rfl, rfl, trivial⟩ rfl) (fun q hq => Free.ups (js := [1, 2]) (ds := [cuD q.1, cuD q.2]) ⟨rfl, rfl, trivial⟩)
          (fun q hm s H C cl fp => t_val (e_call C3 (hr.mono (by decide)) (a_cons (e_nm 1 rfl) (a_cons (e_nm 2 rfl) a_nil)) rfl ⟨q.1, q.2, rfl, (hok.2 q hm).1, rfl⟩))
          (fun q hm _ s H C cl fp => e_call C2 (hr.mono (by decide)) (a_cons (e_nm 1 rfl) (a_cons (e_nm 2 rfl) a_nil)) rfl ⟨q.1, q.2, rfl, rfl⟩) (fun _ => noL_prRg _) (by have := hok.1; omega) rfl) a_nil) rfl hR)), .ins, trivial⟩
    · exact .inl ⟨_, _, ss_one (s_ret (e_make C1 hr (a_cons (e_filT (c := cbp) (f := prRg) (xs := ps) (js := [1, 2]) (own := [("low", 1), ("high", 2)]) (δd := fun q => [some (.dat (.tuple (ps.map pairD))), some (dc q.1), some (dc q.2)]) scBtw.nd (e_nm 0 rfl) (blkOk_by rfl) rfl (jn2 rfl rfl)
          (fun s H C cl fp => pg_tup (n := 2) rfl (pgs_cons (pg_name (i := 1) scBtw.nd rfl (.inl rfl)) (pgs_cons (pg_name (i := 2) scBtw.nd rfl (.inl rfl)) pgs_nil))) (fun q hq => tgx_tup (js := [1, 2]) (ds := [cuD q.1, cuD q.2]) ⟨rfl, rfl, trivial⟩ rfl) (fun q hq => Free.ups (js := [1, 2]) (ds := [cuD q.1, cuD q.2]) ⟨rfl, rfl, trivial⟩)
          (fun q hm s H C cl fp => t_val (e_call C3 (hr.mono (by decide)) (a_cons (e_nm 1 rfl) (a_cons (e_nm 2 rfl) a_nil)) rfl ⟨q.1, q.2, rfl, (hok.2 q hm).1, rfl⟩))
          (fun q hm _ s H C cl fp => e_call C2 (hr.mono (by decide)) (a_cons (e_nm 1 rfl) (a_cons (e_nm 2 rfl) a_nil)) rfl ⟨q.1, q.2, rfl, rfl⟩) (fun _ => noL_prRg _) (by have := hok.1; omega) rfl) a_nil) rfl hR)), .ins, trivial⟩
/-! ### the methods of Ranges -/
structure RgCls (K : PySem.W.Frag) (C : Addr) : Prop where
  c : Cls K C
  p : NoAttr K C "pairs"
  r : NoAttr K C "ranges"
  sf : PySem.W.selfFirst K C = true
def inRg (q : Rat) (p : Pr) : Bool := !cb ⟨0, q, 0⟩ p.1 && !cb p.2 ⟨0, q, 1⟩
def R_in (C : Addr) (as : List AV) (a : AV) : Prop := ∃ (ps : List Pr) (q : Rat), as = [.ins C (rgsF ps), dn q] ∧ (Sm q ∧ okPs 999 ps) ∧ a = db (ps.any (inRg q))
abbrev sIn : Stmt := inClass (top 36) 3
theorem scIn : FnScope ["self", "number", "low", "high"] ["self", "number"] (defScope sIn) := ⟨rfl, rfl, rfl, by decide +kernel, rfl, by decide +kernel, by decide +kernel⟩
theorem c_in {f : Addr} {fd : FuncData} (D : MethAt K C "__contains__" "Ranges.__contains__" sIn ["self", "number"] f fd) (N : NoG mg) (G : RgCls K C) (C1 : Cal P w K mg base "lies_between" 3 (spP K R_lies)) : MCal P w K mg base C "__contains__" 4 (spP K (R_in C)) := by
  refine D.cal (pure_ok D.F scIn (fun as a h => ?_) fun as a h cdv A outer s H Ex hr => ?_)
  · obtain ⟨ps, q, rfl, _⟩ := h
    rfl
  · obtain ⟨ps, q, rfl, ⟨hq, hok⟩, rfl⟩ := h
    exact .inl ⟨_, _, ss_one (s_ret (E.cast (e_any (bl := ps.map (inRg q)) rfl (E.cast (e_mapT (f := fun p => .bool (inRg q p)) (xs := ps) (js := [2, 3]) (own := [("low", 2), ("high", 3)]) (δd := fun p => [some (.ins C (rgsF ps)), some (dn q), some (dc p.1), some (dc p.2)]) scIn.nd (e_fld (e_nm 0 rfl) G.c G.p rfl) (blkOk_by rfl) rfl (jn2 rfl rfl)
          (fun s H C cl fp => pg_tup (n := 2) rfl (pgs_cons (pg_name (i := 2) scIn.nd rfl (.inl rfl)) (pgs_cons (pg_name (i := 3) scIn.nd rfl (.inl rfl)) pgs_nil))) (fun q hq => tgx_tup (js := [2, 3]) (ds := [cuD q.1, cuD q.2]) ⟨rfl, rfl, trivial⟩ rfl) (fun q hq => Free.ups (js := [2, 3]) (ds := [cuD q.1, cuD q.2]) ⟨rfl, rfl, trivial⟩)
          (fun p hm s H C cl fp => e_call C1 hr (a_cons (e_nm 1 rfl) (a_cons (e_nm 2 rfl) (a_cons (e_nm 3 rfl) a_nil))) rfl ⟨q, p.1, p.2, rfl, ⟨hq, (hok.2 p hm).1⟩, rfl⟩) (fun _ => rfl) (by have := hok.1; omega) rfl) (a' := .lst none ((ps.map (inRg q)).map .bool)) (by rw [List.map_map]; rfl)) N.any rfl) (a' := db (ps.any (inRg q))) (by rw [List.any_map]; rfl))), .dat rfl, trivial⟩
def R_or (C : Addr) (as : List AV) (a : AV) : Prop := ∃ ps qs : List Pr, as = [.ins C (rgsF ps), .ins C (rgsF qs)] ∧ (okPs 30 ps ∧ okPs 30 qs) ∧ a = .ins C (rgsF (btw (ps ++ qs)))
abbrev sOr : Stmt := inClass (top 36) 4
theorem scOr : FnScope ["self", "other"] ["self", "other"] (defScope sOr) := ⟨rfl, rfl, rfl, by decide +kernel, rfl, by decide +kernel, by decide +kernel⟩
theorem okPs.app {n m : Nat} {ps qs : List Pr} (h1 : okPs n ps) (h2 : okPs m qs) : okPs (n + m) (ps ++ qs) := ⟨by rw [List.length_append]; exact Nat.add_le_add h1.1 h2.1, fun p hp => (List.mem_append.mp hp).elim (h1.2 p) (h2.2 p)⟩
theorem okPs.mono {n m : Nat} {ps : List Pr} (h : okPs n ps) (hm : n ≤ m) : okPs m ps := ⟨Nat.le_trans h.1 hm, h.2⟩
theorem c_or {f : Addr} {fd : FuncData} (D : MethAt K C "__or__" "Ranges.__or__" sOr ["self", "other"] f fd) (G : RgCls K C) (C1 : Cal P w K mg base "between_cuts" 7 (spP K (R_btw C))) : MCal P w K mg base C "__or__" 8 (spP K (R_or C)) := by
  refine D.cal (pure_ok D.F scOr (fun as a h => ?_) fun as a h cdv A outer s H Ex hr => ?_)
  · obtain ⟨ps, qs, rfl, _⟩ := h
    rfl
  · obtain ⟨ps, qs, rfl, ⟨h1, h2⟩, rfl⟩ := h
    exact .inl ⟨_, _, ss_one (s_ret (e_call C1 hr (a_cons (e_catT (ds := ps.map pairD) (es' := qs.map pairD) (e_fld (e_nm 0 rfl) G.c G.p rfl) (e_fld (e_nm 1 rfl) G.c G.p rfl) (noLs_map noL_pairD _) (noLs_map noL_pairD _) (by rw [List.length_map, List.length_map]; have := h1.1; have := h2.1; omega) rfl rfl) a_nil) rfl ⟨ps ++ qs, .inr (by rw [List.map_append]), (h1.app h2).mono (by decide), rfl⟩)), .ins, trivial⟩
def andP (ps qs : List Pr) : List Pr := ps.flatMap fun p => qs.map fun q => (later p.1 q.1, earlier p.2 q.2)
def R_and (C : Addr) (as : List AV) (a : AV) : Prop := ∃ ps qs : List Pr, as = [.ins C (rgsF ps), .ins C (rgsF qs)] ∧ (okPs 30 ps ∧ okPs 30 qs) ∧ a = .ins C (rgsF (btw (andP ps qs)))
theorem earlier_or (c d : Cut) : earlier c d = c ∨ earlier c d = d := by
  unfold earlier
  split <;> simp
theorem andP_len (ps qs : List Pr) : (andP ps qs).length = ps.length * qs.length := by
  unfold andP
  induction ps with
  | nil => simp
  | cons p ps ih =>
    rw [List.flatMap_cons, List.length_append, ih, List.length_map, List.length_cons, Nat.succ_mul, Nat.add_comm]
theorem andP_ok {ps qs : List Pr} (h1 : okPs 30 ps) (h2 : okPs 30 qs) : okPs 999 (andP ps qs) := by
  refine ⟨?_, fun x hx => ?_⟩
  · rw [andP_len]
    exact Nat.le_trans (Nat.mul_le_mul h1.1 h2.1) (by decide)
  · unfold andP at hx
    obtain ⟨p, hp, hx⟩ := List.mem_flatMap.mp hx
    obtain ⟨q, hq, rfl⟩ := List.mem_map.mp hx
    have a := h1.2 p hp
    have b := h2.2 q hq
    refine ⟨⟨?_, ?_⟩, ?_, ?_⟩ <;> simp only
    · rcases later_or p.1 q.1 with e | e <;> rw [e]
      · exact a.1.1
      · exact b.1.1
    · rcases earlier_or p.2 q.2 with e | e <;> rw [e]
      · exact a.1.2
      · exact b.1.2
    · rcases later_or p.1 q.1 with e | e <;> rw [e]
      · exact a.2.1
      · exact b.2.1
    · rcases earlier_or p.2 q.2 with e | e <;> rw [e]
      · exact a.2.2
      · exact b.2.2
abbrev sAnd : Stmt := inClass (top 36) 5
theorem scAnd : FnScope ["self", "other", "found", "low", "high", "least", "most"] ["self", "other"] (defScope sAnd) := ⟨rfl, rfl, rfl, by decide +kernel, rfl, by decide +kernel, by decide +kernel⟩
theorem flat_take {α β : Type} {f : α → List β} {xs : List α} {i : Nat} {x : α} (h : xs[i]? = some x) : (xs.take (i + 1)).flatMap f = (xs.take i).flatMap f ++ f x := by
  rw [List.take_add_one, h, List.flatMap_append]
  simp
theorem andP_take {ps qs : List Pr} {i : Nat} {p : Pr} (h : ps[i]? = some p) : andP (ps.take (i + 1)) qs = andP (ps.take i) qs ++ qs.map fun q => (later p.1 q.1, earlier p.2 q.2) := flat_take h
theorem c_and {f : Addr} {fd : FuncData} (D : MethAt K C "__and__" "Ranges.__and__" sAnd ["self", "other"] f fd) (G : RgCls K C) (C1 : Cal P w K mg base "between_cuts" 7 (spP K (R_btw C))) (C2 : Cal P w K mg base "later_cut" 3 (spP K (R_cut2 later))) (C3 : Cal P w K mg base "earlier_cut" 3 (spP K (R_cut2 earlier))) : MCal P w K mg base C "__and__" 8 (spP K (R_and C)) := by
  refine D.cal (pure_ok D.F scAnd (fun as a h => ?_) fun as a h cdv A outer s H Ex hr => ?_)
  · obtain ⟨ps, qs, rfl, _⟩ := h
    rfl
  · obtain ⟨ps, qs, rfl, ⟨h1, h2⟩, rfl⟩ := h
    refine .inl ⟨_, _, ss_cons (s_setP (a := .lst none []) 2 scAnd.nd (e_list a_nil rfl))
      (ss_cons (s_forT (js := [3, 4]) (st := fun i => [some (.ins C (rgsF ps)), some (.ins C (rgsF qs)), some (.lst none ((andP (ps.take i) qs).map pairD)), none, none, none, none]) (δd := fun i d => [some (.ins C (rgsF ps)), some (.ins C (rgsF qs)), some (.lst none ((andP (ps.take i) qs).map pairD)), some (.dat (tat d 0)), some (.dat (tat d 1)), none, none])
        (e_fld (e_nm 0 rfl) G.c G.p rfl) rfl rfl ⟨rfl, rfl, rfl, trivial⟩ rfl (pg_tup (n := 2) rfl (pgs_cons (pg_name (i := 3) scAnd.nd rfl (.inr rfl)) (pgs_cons (pg_name (i := 4) scAnd.nd rfl (.inr rfl)) pgs_nil))) (fun i d hi => ?_) (fun i d hi => rfl) fun i d hi => ?_)
      (ss_one (s_ret (e_call C1 hr (a_cons (e_nm 2 rfl) a_nil) rfl ⟨andP ps qs, .inl (by rw [List.length_map, List.take_length]), andP_ok h1 h2, rfl⟩)))), .ins, trivial⟩
    · obtain ⟨p, hip, rfl⟩ := map_at hi
      exact tgx_tup (js := [3, 4]) (ds := [cuD p.1, cuD p.2]) ⟨rfl, rfl, trivial⟩ rfl
    · obtain ⟨p, hip, rfl⟩ := map_at hi
      have hp := h1.2 p (List.mem_of_getElem? hip)
      rw [andP_take hip, List.map_append]
      have hl : (andP (ps.take i) qs).length ≤ 900 := by
        rw [andP_len, List.length_take]
        exact Nat.le_trans (Nat.mul_le_mul (Nat.le_trans (Nat.min_le_right _ _) h1.1) h2.1) (by decide)
      refine ss_one (S.is (s_le (δ2 := [some (.ins C (rgsF ps)), some (.ins C (rgsF qs)), some (.lst none ((andP (ps.take i) qs).map pairD ++ (qs.map fun q => pairD (later p.1 q.1, earlier p.2 q.2)))), none, none, none, none]) (s_ext 2 rfl (e_mapT (f := fun q => pairD (later p.1 q.1, earlier p.2 q.2)) (xs := qs) (js := [5, 6]) (own := [("least", 5), ("most", 6)]) (δd := fun q => [some (.ins C (rgsF ps)), some (.ins C (rgsF qs)), some (.lst none ((andP (ps.take i) qs).map pairD)), some (dc p.1), some (dc p.2), some (dc q.1), some (dc q.2)]) scAnd.nd (e_fld (e_nm 1 rfl) G.c G.p rfl) (blkOk_by rfl) rfl (jn2 rfl rfl)
          (fun s H C cl fp => pg_tup (n := 2) rfl (pgs_cons (pg_name (i := 5) scAnd.nd rfl (.inl rfl)) (pgs_cons (pg_name (i := 6) scAnd.nd rfl (.inl rfl)) pgs_nil))) (fun q hq => tgx_tup (js := [5, 6]) (ds := [cuD q.1, cuD q.2]) ⟨rfl, rfl, trivial⟩ rfl) (fun q hq => Free.ups (js := [5, 6]) (ds := [cuD q.1, cuD q.2]) ⟨rfl, rfl, trivial⟩)
          (fun q hm s H Cx cl fp => E.cast (e_tup (a_cons (e_call C2 (hr.mono (by decide)) (a_cons (e_nm 3 rfl) (a_cons (e_nm 5 rfl) a_nil)) rfl ⟨p.1, q.1, rfl, ⟨hp.1.1, (h2.2 q hm).1.1⟩, rfl⟩) (a_cons (e_call C3 (hr.mono (by decide)) (a_cons (e_nm 4 rfl) (a_cons (e_nm 6 rfl) a_nil)) rfl ⟨p.2, q.2, rfl, ⟨hp.1.2, (h2.2 q hm).1.2⟩, rfl⟩) a_nil)) rfl) rfl) (fun _ => noL_pairD _) (by have := h2.1; omega) rfl) rfl rfl rfl (by rw [List.length_map, List.length_map]; have := h2.1; omega) scAnd.nd) ⟨rfl, rfl, rfl, trivial⟩) ?_)
      rw [List.map_map]
      rfl
def outS (z : List Pr × Cut) (p : Pr) : List Pr × Cut := (z.1 ++ [(z.2, p.1)], p.2)
def outP (ps : List Pr) : List Pr × Cut := ps.foldl outS ([], BOT)
def R_out (C : Addr) (as : List AV) (a : AV) : Prop := ∃ ps : List Pr, as = [.ins C (rgsF ps)] ∧ okPs 30 ps ∧ a = .ins C (rgsF (btw ((outP ps).1 ++ [((outP ps).2, TOPC)])))
theorem wfB : wfC BOT := .inl rfl
theorem wfT : wfC TOPC := .inr (.inl rfl)
theorem outF_ok : ∀ {ps : List Pr} {z : List Pr × Cut} {n : Nat}, okPs n z.1 → Sm z.2.q ∧ wfC z.2 → (∀ p ∈ ps, okPr p) → okPs (n + ps.length) (ps.foldl outS z).1 ∧ Sm (ps.foldl outS z).2.q ∧ wfC (ps.foldl outS z).2
  | [], z, n, h1, h2, _ => ⟨h1, h2⟩
  | p :: ps, z, n, h1, h2, h => by
    have hp := h p List.mem_cons_self
    have := outF_ok (ps := ps) (z := outS z p) (n := n + 1) (h1.app (m := 1) ⟨Nat.le_refl _, fun x hx => by rw [List.mem_singleton.mp hx]; exact ⟨⟨h2.1, hp.1.1⟩, h2.2, hp.2.1⟩⟩) ⟨hp.1.2, hp.2.2⟩ fun x hx => h x (List.mem_cons_of_mem _ hx)
    rw [List.foldl_cons, List.length_cons]
    rw [show n + (ps.length + 1) = n + 1 + ps.length by omega]
    exact this
abbrev sOut : Stmt := inClass (top 36) 6
theorem scOut : FnScope ["self", "found", "last", "low", "high"] ["self"] (defScope sOut) := ⟨rfl, rfl, rfl, by decide +kernel, rfl, by decide +kernel, by decide +kernel⟩
theorem c_out {f : Addr} {fd : FuncData} (D : MethAt K C "outside" "Ranges.outside" sOut ["self"] f fd) (G : RgCls K C) (Cn : Consts K mg) (C1 : Cal P w K mg base "between_cuts" 7 (spP K (R_btw C))) : MCal P w K mg base C "outside" 8 (spP K (R_out C)) := by
  refine D.cal (pure_ok D.F scOut (fun as a h => ?_) fun as a h cdv A outer s H Ex hr => ?_)
  · obtain ⟨ps, rfl, _⟩ := h
    rfl
  · obtain ⟨ps, rfl, h1, rfl⟩ := h
    have hz : ∀ i, okPs (0 + (ps.take i).length) (outP (ps.take i)).1 ∧ Sm (outP (ps.take i)).2.q ∧ wfC (outP (ps.take i)).2 := fun i => outF_ok (z := ([], BOT)) (n := 0) ⟨Nat.le_refl _, fun p hp => by simp at hp⟩ ⟨sm0, wfB⟩ fun p hp => h1.2 p (List.mem_of_mem_take hp)
    refine .inl ⟨_, _, ss_cons (s_par 1 2 scOut.nd (a_cons (e_list a_nil rfl) (a_cons (e_gc Cn.bot) a_nil)))
      (ss_cons (s_forT (js := [3, 4]) (st := fun i => [some (.ins C (rgsF ps)), some (.lst none ((outP (ps.take i)).1.map pairD)), some (dc (outP (ps.take i)).2), none, none]) (δd := fun i d => [some (.ins C (rgsF ps)), some (.lst none ((outP (ps.take i)).1.map pairD)), some (dc (outP (ps.take i)).2), some (.dat (tat d 0)), some (.dat (tat d 1))])
        (e_fld (e_nm 0 rfl) G.c G.p rfl) rfl rfl ⟨rfl, rfl, rfl, trivial⟩ rfl (pg_tup (n := 2) rfl (pgs_cons (pg_name (i := 3) scOut.nd rfl (.inl rfl)) (pgs_cons (pg_name (i := 4) scOut.nd rfl (.inl rfl)) pgs_nil))) (fun i d hi => ?_) (fun i d hi => rfl) fun i d hi => ?_)
      (ss_one (s_ret (e_call C1 hr (a_cons (E.cast (e_cat (e_nm 1 rfl) (e_list (a_cons (e_tup (a_cons (e_nm 2 rfl) (a_cons (e_gc Cn.top) a_nil)) rfl) a_nil) rfl) ?_ rfl rfl rfl rfl) (a' := .lst none (((outP ps).1 ++ [((outP ps).2, TOPC)]).map pairD)) ?_) a_nil) rfl ⟨(outP ps).1 ++ [((outP ps).2, TOPC)], .inl rfl, ?_, rfl⟩)))), .ins, trivial⟩
    · obtain ⟨p, hip, rfl⟩ := map_at hi
      exact tgx_tup (js := [3, 4]) (ds := [cuD p.1, cuD p.2]) ⟨rfl, rfl, trivial⟩ rfl
    · obtain ⟨p, hip, rfl⟩ := map_at hi
      have hp := h1.2 p (List.mem_of_getElem? hip)
      have hl : (outP (ps.take i)).1.length ≤ 30 := Nat.le_trans (hz i).1.1 (by rw [List.length_take]; have := h1.1; omega)
      have e : outP (ps.take (i + 1)) = outS (outP (ps.take i)) p := foldl_take hip
      rw [e]
      generalize outP (ps.take i) = z at *
      unfold outS
      rw [List.map_append]
      exact ss_cons (s_append 1 (e_tup (a_cons (e_nm 2 rfl) (a_cons (e_nm 3 rfl) a_nil)) rfl) rfl rfl rfl rfl (by rw [List.length_map]; omega))
        (ss_one (S.is (s_le (δ2 := [some (.ins C (rgsF ps)), some (.lst none (z.1.map pairD ++ [pairD (z.2, p.1)])), some (dc p.2), none, none]) (s_setP (a := dc p.2) 2 scOut.nd (e_nm 4 rfl)) ⟨rfl, rfl, rfl, trivial⟩) rfl))
    · rw [List.length_map, List.length_map, List.take_length]
      have := (hz ps.length).1.1
      rw [List.take_length] at this
      have := h1.1
      show _ + 1 ≤ _
      omega
    · rw [List.length_map, List.take_length, List.map_append]
      rfl
    · have z := hz ps.length
      rw [List.take_length] at z
      exact (z.1.app (m := 1) ⟨Nat.le_refl _, fun x hx => by rw [List.mem_singleton.mp hx]; exact ⟨⟨z.2.1, sm0⟩, z.2.2, wfT⟩⟩).mono (by have := h1.1; omega)
end
end G
end EX8
section EX9
set_option Elab.async false
set_option linter.all false
set_option maxRecDepth 100000
set_option maxHeartbeats 4000000
set_option exponentiation.threshold 300000
namespace G
open PySem PySem.Spec PyProof.Rows L2
section
variable {X : Cx} {δ δ1 δ2 : Ab} {e e2 e3 : Expr} {pos : Pos} {b0 : Bool}
theorem pt_ifx {c a b : Expr} {tA ta tb : TT} (hc : PT X c tA) (ha : PT X a ta) (hb : PT X b tb) : PT X (.IfExp c a b pos) (fun σ H Q => tA σ H fun d H1 => if d = true then ta σ H1 Q else tb σ H1 Q) := by
  refine ⟨fun pins s σ H Q I h => ?_⟩
  show wpAny _ _ (do if ← isTrue c X.env (eval c X.env) then isTrue a X.env (eval a X.env) else isTrue b X.env (eval b X.env)) _ _ _
  refine wpAny_bind (thn (hc.run pins s σ H _ I h) fun d s1 ⟨H1, I1, q1⟩ => ?_)
  cases d with
  | true => exact ha.run pins s1 σ H1 Q I1 q1
  | false => exact hb.run pins s1 σ H1 Q I1 q1
theorem t_ifT {t3 : TT} (h : T X e δ true δ1) (h2 : T X e2 δ1 b0 δ2) (h3 : PT X e3 t3) : T X (.IfExp e e2 e3 pos) δ b0 δ2 :=
  pt_of (pt_ifx h h2 h3) fun σ H Q ⟨B, gs, γ, hl, S0, k⟩ => ⟨B, gs, γ, hl, S0, fun H1 S1 => iteT ⟨B, gs, γ, SR.len2 hl S0 S1, S1, k⟩⟩
theorem t_ifF {t2 : TT} (h : T X e δ false δ1) (h2 : PT X e2 t2) (h3 : T X e3 δ1 b0 δ2) : T X (.IfExp e e2 e3 pos) δ b0 δ2 :=
  pt_of (pt_ifx h h2 h3) fun σ H Q ⟨B, gs, γ, hl, S0, k⟩ => ⟨B, gs, γ, hl, S0, fun H1 S1 => iteF ⟨B, gs, γ, SR.len2 hl S0 S1, S1, k⟩⟩
end
/-! ### nodes -/
structure Nd where
  x : Rat
  v : Rat
  s : Rat
  r : Rat
  deriving DecidableEq
def ndD (n : Nd) : PyData := .tuple [num n.x, num n.v, num n.s, num n.r]
theorem noL_nd (n : Nd) : noL (ndD n) = true := rfl
theorem shp_nd (n : Nd) : Shp 3 (ndD n) := shp_tup fun d hd => by
  simp only [List.mem_cons, List.not_mem_nil, or_false] at hd
  rcases hd with rfl | rfl | rfl | rfl <;> exact shp_num
structure La4 (n : Nd) : Prop where
  x : La n.x
  v : La n.v
  s : La n.s
  r : La n.r
def reach (n : Nd) (q : Rat) : Rat := n.s + n.r * (q - n.x)
theorem reach_sm {n : Nd} {q : Rat} (h : La4 n) (hq : La q) : Sm (q - n.x) ∧ Sm (n.r * (q - n.x)) ∧ Sm (reach n q) :=
  ⟨(hq.bd.sub h.x.bd).sm (by decide) (by decide), (h.r.bd.mul (hq.bd.sub h.x.bd)).sm (by decide) (by decide), (h.s.bd.add (h.r.bd.mul (hq.bd.sub h.x.bd))).sm (by decide) (by decide)⟩
structure Good (ns : List Nd) : Prop where
  len : ns.length ≤ 60
  la : ∀ n ∈ ns, La4 n
  head : ∃ n r, ns = n :: r ∧ n.x = 0
  pw : ns.Pairwise fun a b => a.x < b.x
theorem Good.up {ns : List Nd} (g : Good ns) (i : Nat) (a b : Nd) (h1 : ns[i]? = some a) (h2 : ns[i + 1]? = some b) : a.x < b.x := by
  obtain ⟨l1, e1⟩ := List.getElem?_eq_some_iff.mp h1
  obtain ⟨l2, e2⟩ := List.getElem?_eq_some_iff.mp h2
  have := List.pairwise_iff_getElem.mp g.pw i (i + 1) l1 l2 (Nat.lt_succ_self i)
  rw [e1, e2] at this
  exact this
section
variable {P : Program} {w : World} {K : PySem.W.Frag} {mg : Str → Option Value} {base : Heap} {C : Addr}
def R_chk (as : List AV) (a : AV) : Prop := ∃ q : Rat, as = [dn q] ∧ (Sm q ∧ 0 ≤ q) ∧ a = .dat .none
abbrev sChk : Stmt := top 40
theorem scChk : FnScope ["income"] ["income"] (defScope sChk) := ⟨rfl, rfl, rfl, by decide +kernel, rfl, by decide +kernel, by decide +kernel⟩
theorem c_chk {f : Addr} {fd : FuncData} (D : DefAt K mg "check_income" sChk ["income"] f fd) (Cn : Consts K mg) (C1 : Cal P w K mg base "is_number" 2 (spP K R_isnum)) (C2 : Cal P w K mg base "is_less" 1 (spP K R_less)) : Cal P w K mg base "check_income" 3 (spP K R_chk) := by
  refine D.cal (pure_ok D.F scChk (fun as a h => ?_) fun as a h cdv A outer s H Ex hr => ?_)
  · obtain ⟨q, rfl, _⟩ := h
    rfl
  · obtain ⟨q, rfl, ⟨h1, h2⟩, rfl⟩ := h
    exact .inr ⟨rfl, _, ss_one (s_ifF (w_pt (w_orF (t_nt (t_val (e_call C1 hr (a_cons (e_nm 0 rfl) a_nil) rfl ⟨q, rfl, rfl⟩))) (w_or1 (T.cast (t_val (e_call C2 (hr.mono (by decide)) (a_cons (e_nm 0 rfl) (a_cons (e_gc Cn.zero) a_nil)) rfl ⟨q, 0, rfl, ⟨h1, sm0⟩, rfl⟩)) (decide_eq_false (by grind)))))) pss_no ss_nil), trivial⟩
def R_reach (as : List AV) (a : AV) : Prop := ∃ (n : Nd) (q : Rat), as = [.dat (ndD n), dn q] ∧ (Sm n.s ∧ Sm n.r ∧ Sm q ∧ Sm n.x ∧ Sm (q - n.x) ∧ Sm (n.r * (q - n.x))) ∧ a = dn (reach n q)
abbrev sReach : Stmt := top 43
theorem scReach : FnScope ["node", "income"] ["node", "income"] (defScope sReach) := ⟨rfl, rfl, rfl, by decide +kernel, rfl, by decide +kernel, by decide +kernel⟩
theorem c_reach {f : Addr} {fd : FuncData} (D : DefAt K mg "reached_by" sReach ["node", "income"] f fd) (C1 : Cal P w K mg base "plus" 3 (spP K (R_num2 (· + ·)))) (C2 : Cal P w K mg base "product" 3 (spP K (R_num2 (· * ·)))) (C3 : Cal P w K mg base "minus" 4 (spP K (R_num2 (· - ·)))) : Cal P w K mg base "reached_by" 5 (spP K R_reach) := by
  refine D.cal (pure_ok D.F scReach (fun as a h => ?_) fun as a h cdv A outer s H Ex hr => ?_)
  · obtain ⟨n, q, rfl, _⟩ := h
    rfl
  · obtain ⟨n, q, rfl, ⟨h1, h2, h3, h4, h5, h6⟩, rfl⟩ := h
    exact .inl ⟨_, _, ss_one (s_ret (e_call C1 (hr.mono (by decide)) (a_cons (e_ixT (e_nm 0 rfl) e_int rfl) (a_cons (e_call C2 (hr.mono (by decide)) (a_cons (e_ixT (e_nm 0 rfl) e_int rfl) (a_cons (e_call C3 hr (a_cons (e_nm 1 rfl) (a_cons (e_ixT (e_nm 0 rfl) e_int rfl) a_nil)) rfl ⟨q, n.x, rfl, ⟨h3, h4⟩, rfl⟩) a_nil)) rfl ⟨n.r, q - n.x, rfl, ⟨h2, h5⟩, rfl⟩) a_nil)) rfl ⟨n.s, n.r * (q - n.x), rfl, ⟨h1, h6⟩, rfl⟩)), .dat rfl, trivial⟩
theorem R_reach_of {n : Nd} {q : Rat} (h : La4 n) (hq : La q) : R_reach [.dat (ndD n), dn q] (dn (reach n q)) := ⟨n, q, rfl, ⟨h.s.sm, h.r.sm, hq.sm, h.x.sm, (reach_sm h hq).1, (reach_sm h hq).2.1⟩, rfl⟩
/-! ### are_nodes -/
def lastD (ns : List Nd) : Nat → PyData
  | 0 => .none
  | i + 1 => match ns[i]? with
    | some n => num n.x
    | none => .none
def R_nodes (as : List AV) (a : AV) : Prop := ∃ ns : List Nd, as = [.dat (.list (ns.map ndD))] ∧ Good ns ∧ a = db true
abbrev sNodes : Stmt := top 42
theorem scNodes : FnScope ["value", "last", "node", "number"] ["value"] (defScope sNodes) := ⟨rfl, rfl, rfl, by decide +kernel, rfl, by decide +kernel, by decide +kernel⟩
theorem noL_lastD {ns : List Nd} {i : Nat} : noL (lastD ns i) = true := by
  unfold lastD
  split
  · rfl
  · split <;> rfl
theorem c_nodes {f : Addr} {fd : FuncData} (D : DefAt K mg "are_nodes" sNodes ["value"] f fd) (N : NoG mg) (Cn : Consts K mg) (C1 : Cal P w K mg base "is_number" 2 (spP K R_isnum)) (C2 : Cal P w K mg base "is_less" 1 (spP K R_less)) : Cal P w K mg base "are_nodes" 3 (spP K R_nodes) := by
  refine D.cal (pure_ok D.F scNodes (fun as a h => ?_) fun as a h cdv A outer s H Ex hr => ?_)
  · obtain ⟨ns, rfl, _⟩ := h
    rfl
  · obtain ⟨ns, rfl, g, rfl⟩ := h
    have hne : (ns.map ndD).isEmpty = false := by
      obtain ⟨n, r, rfl, _⟩ := g.head
      rfl
    refine .inl ⟨_, _, ss_cons (s_ifF (w_pt (w_orF (t_nt (t_val (e_isi true "list" (e_nm 0 rfl) N.list N.isinstance rfl))) (w_or1 (T.cast (t_eqG hr.units (e_nm 0 rfl) (e_list a_nil rfl) rfl rfl ((shp_map shp_nd _).shaped (by decide)) (shp_nil.shaped (by decide))) (by rw [eqv_nil, hne]))))) pss_no ss_nil)
      (ss_cons (s_setP (a := .dat .none) 1 scNodes.nd e_none)
      (ss_cons (s_forL (js := [2]) (st := fun i => [some (.dat (.list (ns.map ndD))), some (.dat (lastD ns i)), none, none]) (δd := fun i d => [some (.dat (.list (ns.map ndD))), some (.dat (lastD ns i)), some (.dat d), none])
        (e_nm 0 rfl) rfl rfl ⟨rfl, rfl, trivial⟩ rfl (pg_name (i := 2) scNodes.nd rfl (.inl rfl)) (fun i d hi => tgx_name rfl) (fun i d hi => rfl) fun i d hi => ?_)
      (ss_one (s_ret e_bool)))), .dat rfl, trivial⟩
    obtain ⟨n, hin, rfl⟩ := map_at hi
    have hl := g.la n (List.mem_of_getElem? hin)
    have e1 : lastD ns (i + 1) = num n.x := by
      show (match ns[i]? with | some n => num n.x | none => PyData.none) = _
      rw [hin]
    rw [e1]
    refine ss_cons (s_ifF (w_pt (w_orF (t_nt (t_val (e_isi true "tuple" (e_nm 2 rfl) N.tuple N.isinstance rfl))) (w_orF (t_neF (e_len (e_nm 2 rfl) rfl N.len) e_int) (w_or1 (t_nt (t_val (E.cast (e_all (bl := [true, true, true, true]) rfl (e_mapT (gg := num) (f := fun _ => .bool true) (xs := [n.x, n.v, n.s, n.r]) (js := [3]) (own := [("number", 3)]) (δd := fun q => [some (.dat (.list (ns.map ndD))), some (.dat (lastD ns i)), some (.dat (ndD n)), some (dn q)]) scNodes.nd (e_nm 2 rfl) (blkOk_by rfl) rfl (jn1 rfl) (fun s H C cl fp => pg_name (i := 3) scNodes.nd rfl (.inl rfl)) (fun q hq => tgx_name rfl) (fun q hq => Ups.set (j := 3) (d := num q) rfl)
          (fun q hm s H C cl fp => e_call C1 hr (a_cons (e_nm 3 rfl) a_nil) rfl ⟨q, rfl, rfl⟩) (fun _ => rfl) (by simp) rfl) N.all rfl) (a' := db true) rfl))))))) pss_no ss_nil)
      (ss_cons (s_ifF (δ1 := [some (.dat (.list (ns.map ndD))), some (.dat (lastD ns i)), some (.dat (ndD n)), none]) ?_ pss_no ss_nil) (ss_one (S.is (s_le (δ2 := [some (.dat (.list (ns.map ndD))), some (dn n.x), none, none]) (s_setP (a := dn n.x) 1 scNodes.nd (e_ixT (e_nm 2 rfl) e_int rfl)) ⟨rfl, rfl, trivial⟩) rfl)))
    cases i with
    | zero =>
      have hx : n.x = 0 := by
        obtain ⟨n', r, rfl, hx⟩ := g.head
        cases hin
        exact hx
      exact t_ifT (t_isN (e_nm 1 rfl) true) (T.cast (t_neN hr.units (p := n.x) (q := 0) (e_ixT (e_nm 2 rfl) e_int rfl) (e_gc Cn.zero)) (by rw [decide_eq_true hx]; rfl)) pt_no
    | succ j =>
      have hj : j < ns.length := by
        have := (List.getElem?_eq_some_iff.mp hin).1
        omega
      have hj2 : ns[j]? = some ns[j] := List.getElem?_eq_getElem hj
      have e2 : lastD ns (j + 1) = num (ns[j]).x := by
        show (match ns[j]? with | some n => num n.x | none => PyData.none) = _
        rw [hj2]
      rw [e2]
      exact t_ifF (t_isN (e_nm 1 rfl) false) pt_no (t_nt (T.cast (t_val (e_call C2 (hr.mono (by decide)) (a_cons (e_nm 1 rfl) (a_cons (e_ixT (e_nm 2 rfl) e_int rfl) a_nil)) rfl ⟨(ns[j]).x, n.x, rfl, ⟨(g.la _ (List.mem_of_getElem? hj2)).x.sm, hl.x.sm⟩, rfl⟩)) (decide_eq_true (g.up j _ _ hj2 hin))))
/-! ### node_near -/
def nearN (ns : List Nd) (q : Rat) : Option Nd := (ns.filter fun n => !decide (q < n.x)).getLast?
def trD (n : Nd) (q : Rat) : PyData := .tuple [num (if n.x = q then n.v else reach n q), num (reach n q), num n.r]
theorem atI_lastO {α : Type} {xs : List α} {x : α} (h : xs.getLast? = some x) : atI xs (-1) = some x := by
  obtain ⟨ys, rfl⟩ := List.getLast?_eq_some_iff.mp h
  exact atI_last
def R_near (as : List AV) (a : AV) : Prop := ∃ (ns : List Nd) (q : Rat) (n : Nd), as = [.dat (.tuple (ns.map ndD)), dn q] ∧ (Good ns ∧ La q ∧ nearN ns q = some n) ∧ a = .dat (trD n q)
abbrev sNear : Stmt := top 44
theorem scNear : FnScope ["nodes", "income", "node", "start", "one"] ["nodes", "income"] (defScope sNear) := ⟨rfl, rfl, rfl, by decide +kernel, rfl, by decide +kernel, by decide +kernel⟩
theorem c_near {f : Addr} {fd : FuncData} (D : DefAt K mg "node_near" sNear ["nodes", "income"] f fd) (C1 : Cal P w K mg base "is_less" 1 (spP K R_less)) (C2 : Cal P w K mg base "reached_by" 5 (spP K R_reach)) : Cal P w K mg base "node_near" 6 (spP K R_near) := by
  refine D.cal (pure_ok D.F scNear (fun as a h => ?_) fun as a h cdv A outer s H Ex hr => ?_)
  · obtain ⟨ns, q, n, rfl, _⟩ := h
    rfl
  · obtain ⟨ns, q, n, rfl, ⟨g, hq, hn⟩, rfl⟩ := h
    have hla := g.la
    have hlen := g.len
    have hnl : La4 n := hla n (List.mem_filter.mp (List.mem_of_getLast? hn)).1
    refine .inl ⟨_, _, ss_cons (s_setP (a := .dat (ndD n)) 2 scNear.nd (e_ixL (e_filT (gg := ndD) (c := fun n => !decide (q < n.x)) (f := ndD) (xs := ns) (js := [4]) (own := [("one", 4)]) (δd := fun n => [some (.dat (.tuple (ns.map ndD))), some (dn q), none, none, some (.dat (ndD n))]) scNear.nd (e_nm 0 rfl) (blkOk_by rfl) rfl (jn1 rfl)
          (fun s H C cl fp => pg_name (i := 4) scNear.nd rfl (.inl rfl)) (fun n hm => tgx_name rfl) (fun n hm => Ups.set (j := 4) (d := ndD n) rfl)
          (fun n hm s H C cl fp => t_not (t_val (e_call C1 (hr.mono (by decide)) (a_cons (e_nm 1 rfl) (a_cons (e_ixT (e_nm 4 rfl) e_int rfl) a_nil)) rfl ⟨q, n.x, rfl, ⟨hq.sm, (hla n hm).x.sm⟩, rfl⟩)))
          (fun n hm _ s H C cl fp => e_nm 4 rfl) (fun _ => noL_nd _) (by omega) rfl) (e_neg e_int) (atI_lastO (by rw [List.getLast?_map]; exact congrArg (Option.map ndD) hn))))
      (ss_cons (s_setP (a := dn (reach n q)) 3 scNear.nd (e_call C2 hr (a_cons (e_nm 2 rfl) (a_cons (e_nm 1 rfl) a_nil)) rfl (R_reach_of hnl hq)))
      (ss_one (s_ret (E.cast (e_tup (a_cons (e_if (a := dn (if n.x = q then n.v else reach n q)) (t_eqN hr.units (p := n.x) (q := q) (e_ixT (e_nm 2 rfl) e_int rfl) (e_nm 1 rfl)) (fun h => E.cast (e_ixT (e_nm 2 rfl) e_int rfl) ?_) (fun h => E.cast (e_nm 3 rfl) ?_)) (a_cons (e_nm 3 rfl) (a_cons (e_ixT (e_nm 2 rfl) e_int rfl) a_nil))) rfl) rfl)))), .dat rfl, trivial⟩
    · rw [if_pos (of_decide_eq_true h)]
    · rw [if_neg (of_decide_eq_false h)]
end
end G
end EX9
section EX10
set_option Elab.async false
set_option linter.all false
set_option maxRecDepth 100000
set_option maxHeartbeats 4000000
set_option exponentiation.threshold 300000
namespace G
open PySem PySem.Spec PyProof.Rows L2
/-! ### near -/
theorem nearN_some {ns : List Nd} {q : Rat} (g : Good ns) (hq : 0 ≤ q) : ∃ n, nearN ns q = some n := by
  unfold nearN
  cases h : (ns.filter fun n => !decide (q < n.x)).getLast? with
  | some n => exact ⟨n, rfl⟩
  | none =>
    exfalso
    rw [List.getLast?_eq_none_iff, List.filter_eq_nil_iff] at h
    obtain ⟨n, r, rfl, hx⟩ := g.head
    have := h n List.mem_cons_self
    rw [hx] at this
    simp only [Bool.not_eq_true', decide_eq_false_iff_not] at this
    grind
def nr (ns : List Nd) (q : Rat) : Nd := (nearN ns q).getD ⟨0, 0, 0, 0⟩
theorem nr_eq {ns : List Nd} {q : Rat} (g : Good ns) (hq : 0 ≤ q) : nearN ns q = some (nr ns q) := by
  obtain ⟨n, h⟩ := nearN_some g hq
  unfold nr
  rw [h]
  rfl
theorem nr_mem {ns : List Nd} {q : Rat} (g : Good ns) (hq : 0 ≤ q) : nr ns q ∈ ns := (List.mem_filter.mp (List.mem_of_getLast? (nr_eq g hq))).1
def val (n : Nd) (q : Rat) : Rat := if n.x = q then n.v else reach n q
theorem reach_bd {n : Nd} {q : Rat} (h : La4 n) (hq : La q) : Bd 1100 110 (reach n q) := (h.s.bd.add (h.r.bd.mul (hq.bd.sub h.x.bd))).mono (by decide) (by decide)
theorem val_bd {n : Nd} {q : Rat} (h : La4 n) (hq : La q) : Bd 1100 110 (val n q) := by
  unfold val
  split
  · exact h.v.bd.mono (by decide) (by decide)
  · exact reach_bd h hq
/-! ### prune -/
def pruS (F : List Nd) (n : Nd) : List Nd := match F.getLast? with
  | none => [n]
  | some l => if n.v = reach l n.x ∧ n.s = reach l n.x ∧ n.r = l.r then F else F ++ [n]
def prune (ns : List Nd) : List Nd := ns.foldl pruS []
theorem pruS_app (G : List Nd) (l n : Nd) : pruS (G ++ [l]) n = if n.v = reach l n.x ∧ n.s = reach l n.x ∧ n.r = l.r then G ++ [l] else G ++ [l] ++ [n] := by
  unfold pruS
  simp
theorem pruS_ne {F : List Nd} {n : Nd} : pruS F n ≠ [] := by
  rcases List.eq_nil_or_concat F with rfl | ⟨G, l, rfl⟩
  · simp [pruS]
  · rw [List.concat_eq_append, pruS_app]
    split <;> simp
theorem pruF_ne : ∀ {ns F : List Nd}, F ≠ [] → ns.foldl pruS F ≠ []
  | [], _, h => h
  | n :: ns, F, _ => pruF_ne (ns := ns) pruS_ne
theorem pruS_sub {F : List Nd} {n : Nd} : (pruS F n).Sublist (F ++ [n]) := by
  rcases List.eq_nil_or_concat F with rfl | ⟨G, l, rfl⟩
  · exact List.Sublist.refl _
  · rw [List.concat_eq_append, pruS_app]
    split
    · exact List.sublist_append_left _ _
    · exact List.Sublist.refl _
theorem pruF_sub : ∀ {ns F : List Nd}, (ns.foldl pruS F).Sublist (F ++ ns)
  | [], F => by rw [List.append_nil]; exact List.Sublist.refl _
  | n :: ns, F => by
    rw [List.foldl_cons]
    refine (pruF_sub (ns := ns)).trans ?_
    rw [List.append_cons]
    exact List.Sublist.append_right pruS_sub ns
theorem prune_sub {ns : List Nd} : (prune ns).Sublist ns := pruF_sub (F := [])
theorem pruF_head : ∀ {ns G : List Nd} {n : Nd}, ∃ r, ns.foldl pruS (n :: G) = n :: r
  | [], G, n => ⟨G, rfl⟩
  | m :: ns, G, n => by
    rw [List.foldl_cons]
    have : ∃ G', pruS (n :: G) m = n :: G' := by
      unfold pruS
      split
      · rename_i h
        simp at h
      · split
        · exact ⟨_, rfl⟩
        · exact ⟨_, rfl⟩
    obtain ⟨G', e⟩ := this
    rw [e]
    exact pruF_head
theorem Good.prune {ns : List Nd} (g : Good ns) : Good (prune ns) := by
  refine ⟨Nat.le_trans prune_sub.length_le g.len, fun n hn => g.la n (prune_sub.mem hn), ?_, g.pw.sublist prune_sub⟩
  obtain ⟨n, r, rfl, hx⟩ := g.head
  obtain ⟨r', e⟩ := pruF_head (ns := r) (G := []) (n := n)
  exact ⟨n, r', e, hx⟩
theorem eqv3 {a b c a' b' c' : Rat} : PyData.eqv (.tuple [num a, num b, num c]) (.tuple [num a', num b', num c']) = decide (a = a' ∧ b = b' ∧ c = c') := by
  have e : PyData.eqv (.tuple [num a, num b, num c]) (.tuple [num a', num b', num c']) = (PyData.eqv (num a) (num a') && (PyData.eqv (num b) (num b') && (PyData.eqv (num c) (num c') && true))) := rfl
  rw [e, eqv_num, eqv_num, eqv_num, Bool.and_true, ← Bool.decide_and, ← Bool.decide_and]
theorem shp3 {a b c : Rat} : Shp 3 (.tuple [num a, num b, num c]) := shp_tup fun d hd => by
  simp only [List.mem_cons, List.not_mem_nil, or_false] at hd
  rcases hd with rfl | rfl | rfl <;> exact shp_num
def curF (ns : List Nd) : List (Str × PyData) := [("nodes", .tuple (ns.map ndD))]
structure CuCls (K : PySem.W.Frag) (C : Addr) : Prop where
  c : Cls K C
  n : NoAttr K C "nodes"
  sf : PySem.W.selfFirst K C = true
section
variable {P : Program} {w : World} {K : PySem.W.Frag} {mg : Str → Option Value} {base : Heap} {C : Addr}
def R_cinit (as : List AV) (fs : List (Str × PyData)) : Prop := ∃ ns : List Nd, as = [.dat (.list (ns.map ndD))] ∧ Good ns ∧ fs = curF (prune ns)
abbrev sCinit : Stmt := inClass (top 45) 0
theorem scCinit : FnScope ["self", "nodes", "found", "node", "value"] ["self", "nodes"] (defScope sCinit) := ⟨rfl, rfl, rfl, by decide +kernel, rfl, by decide +kernel, by decide +kernel⟩
theorem c_cinit {f : Addr} {fd : FuncData} (D : ClsAt K mg C "Curve" "Curve.__init__" sCinit ["self", "nodes"] ["nodes"] f fd) (N : NoG mg) (C1 : Cal P w K mg base "are_nodes" 3 (spP K R_nodes)) (C2 : Cal P w K mg base "reached_by" 5 (spP K R_reach)) : KCal P w K mg base C "Curve" 6 R_cinit := by
  refine D.cal (init_ok D.F scCinit (fun as a h => ?_) fun as fs h p cdv A outer s H Ex hr => ?_)
  · obtain ⟨ns, rfl, _⟩ := h
    rfl
  · obtain ⟨ns, rfl, g, rfl⟩ := h
    obtain ⟨n0, rest, hns, hx0⟩ := g.head
    have hpr : prune ns = rest.foldl pruS [n0] := by
      rw [hns]
      rfl
    have hlen := g.len
    have hrl : rest.length < 60 := by
      rw [hns, List.length_cons] at hlen
      omega
    have hFl : ∀ i, ((rest.take i).foldl pruS [n0]).length < 100 := fun i => by
      have := (pruF_sub (ns := rest.take i) (F := [n0])).length_le
      rw [List.length_append, List.length_take] at this
      simp at this
      omega
    refine ⟨_, ss_cons (s_ifF (t_nt (t_val (e_call C1 (hr.mono (by decide)) (a_cons (e_nm 1 rfl) a_nil) rfl ⟨ns, rfl, g, rfl⟩))) pss_no ss_nil)
      (ss_cons (s_setP (a := .lst none [ndD n0]) 2 scCinit.nd (e_list (a_cons (e_ixL (e_nm 1 rfl) e_int (by show atI (ns.map ndD) 0 = some (ndD n0); rw [hns]; exact atI_nat (k := 0) (by simp))) a_nil) rfl))
      (ss_cons (s_forL (js := [3]) (ds := rest.map ndD) (st := fun i => [some (.obj p C []), some (.dat (.list (ns.map ndD))), some (.lst none (((rest.take i).foldl pruS [n0]).map ndD)), none, none]) (δd := fun i d => [some (.obj p C []), some (.dat (.list (ns.map ndD))), some (.lst none (((rest.take i).foldl pruS [n0]).map ndD)), some (.dat d), none])
        (E.cast (e_slL (e_nm 1 rfl) (o_some e_int) o_none rfl (noLs_map noL_nd _)) (a' := .lst none (rest.map ndD)) (by have := cutD_from (ds := ns.map ndD) (k := 1) (by rw [hns]; simp); rw [show ((1 : Nat) : Int) = 1 from rfl] at this; rw [this, hns]; rfl)) rfl rfl ⟨rfl, rfl, rfl, trivial⟩ rfl (pg_name (i := 3) scCinit.nd rfl (.inl rfl)) (fun i d hi => tgx_name rfl) (fun i d hi => rfl) fun i d hi => ?_)
      (ss_one (s_fld (d := .tuple ((prune ns).map ndD)) 0 (e_tupleL (ds := (prune ns).map ndD) (e_nm 2 rfl) N.tuple (noLs_map noL_nd _) ?_) rfl (noLs_map noL_nd _) rfl rfl rfl D.c (D.na _ (by simp)) (by simp))))), rfl⟩
    · obtain ⟨n, hin, rfl⟩ := map_at hi
      have hnext : (rest.take (i + 1)).foldl pruS [n0] = pruS ((rest.take i).foldl pruS [n0]) n := foldl_take hin
      have hne : (rest.take i).foldl pruS [n0] ≠ [] := pruF_ne (by simp)
      have hsub : ∀ x ∈ (rest.take i).foldl pruS [n0], La4 x := fun x hx => by
        have := pruF_sub.mem hx
        refine g.la x ?_
        rw [hns]
        rcases List.mem_append.mp this with h | h
        · rw [List.mem_singleton.mp h]
          exact List.mem_cons_self
        · exact List.mem_cons_of_mem _ (List.mem_of_mem_take h)
      have hl := hFl i
      have hln : La4 n := g.la n (by rw [hns]; exact List.mem_cons_of_mem _ (List.mem_of_getElem? hin))
      rw [hnext]
      generalize (rest.take i).foldl pruS [n0] = F at *
      rcases List.eq_nil_or_concat F with rfl | ⟨G, l, rfl⟩
      · exact absurd rfl hne
      · rw [List.concat_eq_append] at *
        have hll : La4 l := hsub l (by simp)
        have hlast : ∀ {o3 o4 : Option AV}, ixLV [some (AV.obj p C []), some (.dat (.list (ns.map ndD))), some (.lst none ((G ++ [l]).map ndD)), o3, o4] (.sl 2) (-1) = some (ndD l) := fun {_ _} => by
          show atI ((G ++ [l]).map ndD) (-1) = _
          rw [List.map_append]
          exact atI_last
        refine ss_cons (s_setP (a := dn (reach l n.x)) 4 scCinit.nd (e_call C2 hr (a_cons (e_ixL (e_nm 2 rfl) (e_neg e_int) hlast) (a_cons (e_ixT (e_nm 3 rfl) e_int rfl) a_nil)) rfl (R_reach_of hll hln.x))) ?_
        by_cases hc : n.v = reach l n.x ∧ n.s = reach l n.x ∧ n.r = l.r
        · rw [pruS_app, if_pos hc]
          exact ss_one (s_le (s_ifF (T.cast (t_neG (d1 := .tuple [num n.v, num n.s, num n.r]) (d2 := .tuple [num (reach l n.x), num (reach l n.x), num l.r]) hr.units (e_slT (e_nm 3 rfl) (o_some e_int) o_none rfl rfl) (e_tup (a_cons (e_nm 4 rfl) (a_cons (e_nm 4 rfl) (a_cons (e_ixT (e_ixL (e_nm 2 rfl) (e_neg e_int) hlast) e_int rfl) a_nil))) rfl) rfl rfl (shp3.shaped (by decide)) (shp3.shaped (by decide))) ((congrArg not eqv3).trans (by rw [decide_eq_true hc]; rfl))) pss_no ss_nil) ⟨rfl, rfl, rfl, trivial⟩)
        · rw [pruS_app, if_neg hc, List.map_append (l₂ := [n])]
          exact ss_one (S.is (s_le (δ2 := [some (.obj p C []), some (.dat (.list (ns.map ndD))), some (.lst none ((G ++ [l]).map ndD ++ [ndD n])), none, none]) (s_ifT (T.cast (t_neG (d1 := .tuple [num n.v, num n.s, num n.r]) (d2 := .tuple [num (reach l n.x), num (reach l n.x), num l.r]) hr.units (e_slT (e_nm 3 rfl) (o_some e_int) o_none rfl rfl) (e_tup (a_cons (e_nm 4 rfl) (a_cons (e_nm 4 rfl) (a_cons (e_ixT (e_ixL (e_nm 2 rfl) (e_neg e_int) hlast) e_int rfl) a_nil))) rfl) rfl rfl (shp3.shaped (by decide)) (shp3.shaped (by decide))) ((congrArg not eqv3).trans (by rw [decide_eq_false hc]; rfl))) (ss_one (s_append 2 (e_nm 3 rfl) rfl rfl rfl rfl (by rw [List.length_map]; omega))) pss_no) ⟨rfl, rfl, rfl, trivial⟩) rfl)
    · rw [List.length_map, List.take_length, hpr]
      rfl
def R_ccall (C : Addr) (as : List AV) (a : AV) : Prop := ∃ (ns : List Nd) (q : Rat), as = [.ins C (curF ns), dn q] ∧ (Good ns ∧ La q ∧ 0 ≤ q) ∧ a = dn (val (nr ns q) q)
abbrev sCcall : Stmt := inClass (top 45) 2
theorem scCcall : FnScope ["self", "income"] ["self", "income"] (defScope sCcall) := ⟨rfl, rfl, rfl, by decide +kernel, rfl, by decide +kernel, by decide +kernel⟩
theorem c_ccall {f : Addr} {fd : FuncData} (D : MethAt K C "__call__" "Curve.__call__" sCcall ["self", "income"] f fd) (G : CuCls K C) (C1 : Cal P w K mg base "check_income" 3 (spP K R_chk)) (C2 : Cal P w K mg base "node_near" 6 (spP K R_near)) : MCal P w K mg base C "__call__" 7 (spP K (R_ccall C)) := by
  refine D.cal (pure_ok D.F scCcall (fun as a h => ?_) fun as a h cdv A outer s H Ex hr => ?_)
  · obtain ⟨ns, q, rfl, _⟩ := h
    rfl
  · obtain ⟨ns, q, rfl, ⟨g, hq, h0⟩, rfl⟩ := h
    exact .inl ⟨_, _, ss_cons (s_expr (e_call C1 (hr.mono (by decide)) (a_cons (e_nm 1 rfl) a_nil) rfl ⟨q, rfl, ⟨hq.sm, h0⟩, rfl⟩))
      (ss_one (s_ret (E.cast (e_ixT (e_call C2 hr (a_cons (e_fld (e_nm 0 rfl) G.c G.n rfl) (a_cons (e_nm 1 rfl) a_nil)) rfl ⟨ns, q, nr ns q, rfl, ⟨g, hq, nr_eq g h0⟩, rfl⟩) e_int rfl) rfl))), .dat rfl, trivial⟩
/-! ### scaled_curve -/
theorem La4.of3 {n : Nd} (h : La4 n) {q : Rat} (hq : q ∈ [n.v, n.s, n.r]) : Sm q := by
  simp only [List.mem_cons, List.not_mem_nil, or_false] at hq
  rcases hq with rfl | rfl | rfl
  · exact h.v.sm
  · exact h.s.sm
  · exact h.r.sm
def scN (k : Rat) (n : Nd) : Nd := ⟨n.x, n.v * k, n.s * k, n.r * k⟩
def R_scaled (C : Addr) (as : List AV) (a : AV) : Prop := ∃ (ns : List Nd) (k : Rat), as = [.ins C (curF ns), dn k] ∧ (Good ns ∧ La k ∧ Good (ns.map (scN k))) ∧ a = .ins C (curF (prune (ns.map (scN k))))
abbrev sScaled : Stmt := top 46
theorem scScaled : FnScope ["curve", "number", "node", "one"] ["curve", "number"] (defScope sScaled) := ⟨rfl, rfl, rfl, by decide +kernel, rfl, by decide +kernel, by decide +kernel⟩
theorem c_scaled {f : Addr} {fd : FuncData} (D : DefAt K mg "scaled_curve" sScaled ["curve", "number"] f fd) (N : NoG mg) (G : CuCls K C) (C1 : KCal P w K mg base C "Curve" 6 R_cinit) (C2 : Cal P w K mg base "product" 3 (spP K (R_num2 (· * ·)))) : Cal P w K mg base "scaled_curve" 8 (spP K (R_scaled C)) := by
  refine D.cal (pure_ok D.F scScaled (fun as a h => ?_) fun as a h cdv A outer s H Ex hr => ?_)
  · obtain ⟨ns, q, rfl, _⟩ := h
    rfl
  · obtain ⟨ns, k, rfl, ⟨g, hk, g2⟩, rfl⟩ := h
    exact .inl ⟨_, _, ss_one (s_ret (e_make C1 hr (a_cons (e_mapT (gg := ndD) (f := fun n => ndD (scN k n)) (xs := ns) (js := [2]) (own := [("node", 2)]) (δd := fun n => [some (.ins C (curF ns)), some (dn k), some (.dat (ndD n)), none]) scScaled.nd (e_fld (e_nm 0 rfl) G.c G.n rfl) (blkOk_by rfl) rfl (jn1 rfl)
        (fun s H C cl fp => pg_name (i := 2) scScaled.nd rfl (.inl rfl)) (fun n hm => tgx_name rfl) (fun n hm => Ups.set (j := 2) (d := ndD n) rfl)
        (fun n hm s H C' cl fp => E.cast (e_catT (ds := [num n.x]) (es' := [n.v, n.s, n.r].map fun q => num (q * k)) (e_tup (a_cons (e_ixT (e_nm 2 rfl) e_int rfl) a_nil) rfl) (e_tupleL (ds := [n.v, n.s, n.r].map fun q => num (q * k)) (e_mapT (gg := num) (f := fun q => num (q * k)) (xs := [n.v, n.s, n.r]) (js := [3]) (own := [("one", 3)]) (δd := fun q => [some (.ins C (curF ns)), some (dn k), some (.dat (ndD n)), some (dn q)]) scScaled.nd (e_slT (e_nm 2 rfl) (o_some e_int) o_none rfl rfl) (blkOk_by rfl) rfl (jn1 rfl)
            (fun s H C cl fp => pg_name (i := 3) scScaled.nd rfl (.inl rfl)) (fun q hm => tgx_name rfl) (fun q hm => Ups.set (j := 3) (d := num q) rfl)
            (fun q hq s H C cl fp => e_call C2 (hr.mono (by decide)) (a_cons (e_nm 3 rfl) (a_cons (e_nm 1 rfl) a_nil)) rfl ⟨q, k, rfl, ⟨La4.of3 (g.la n hm) hq, hk.sm⟩, rfl⟩) (fun _ => rfl) (by simp) rfl) N.tuple rfl) rfl rfl (by simp) rfl rfl) rfl) (fun _ => noL_nd _) (by have := g.len; omega) rfl) a_nil) rfl ⟨ns.map (scN k), by rw [List.map_map]; rfl, g2, rfl⟩)), .ins, trivial⟩
end
end G
end EX10
section EX11
set_option Elab.async false
set_option linter.all false
set_option maxRecDepth 100000
set_option maxHeartbeats 4000000
set_option exponentiation.threshold 300000
namespace G
open PySem PySem.Spec PyProof.Rows L2
/-! ### in_ascending_order -/
theorem units65 {k : Nat} {A : Around} (r : Room k A) : A.units + 65 < cLine := by have := r.un; omega
def ascS (F : List Rat) (q : Rat) : List Rat := if q ∈ F then F else F.take (F.filter fun z => decide (z < q)).length ++ [q] ++ F.drop (F.filter fun z => decide (z < q)).length
def ascL (qs : List Rat) : List Rat := qs.foldl ascS []
theorem ascS_mem {F : List Rat} {q x : Rat} (h : x ∈ ascS F q) : x ∈ F ∨ x = q := by
  unfold ascS at h
  split at h
  · exact .inl h
  · rcases List.mem_append.mp h with h | h
    · rcases List.mem_append.mp h with h | h
      · exact .inl (List.mem_of_mem_take h)
      · exact .inr (List.mem_singleton.mp h)
    · exact .inl (List.mem_of_mem_drop h)
theorem ascF_mem : ∀ {qs F : List Rat} {x : Rat}, x ∈ qs.foldl ascS F → x ∈ F ∨ x ∈ qs
  | [], F, x, h => .inl h
  | q :: qs, F, x, h => by
    rcases ascF_mem (qs := qs) h with h | h
    · rcases ascS_mem h with h | rfl
      · exact .inl h
      · exact .inr List.mem_cons_self
    · exact .inr (List.mem_cons_of_mem _ h)
theorem ascS_len {F : List Rat} {q : Rat} : (ascS F q).length ≤ F.length + 1 := by
  unfold ascS
  split
  · omega
  · simp only [List.length_append, List.length_take, List.length_drop, List.length_singleton]
    omega
theorem ascF_len : ∀ {qs F : List Rat}, (qs.foldl ascS F).length ≤ F.length + qs.length
  | [], F => Nat.le_refl _
  | q :: qs, F => by
    rw [List.foldl_cons, List.length_cons]
    have := ascF_len (qs := qs) (F := ascS F q)
    have := ascS_len (F := F) (q := q)
    omega
section
variable {P : Program} {w : World} {K : PySem.W.Frag} {mg : Str → Option Value} {base : Heap} {C : Addr}
def R_asc (as : List AV) (a : AV) : Prop := ∃ qs : List Rat, as = [.dat (.list (qs.map num))] ∧ (qs.length ≤ 1000 ∧ ∀ q ∈ qs, Sm q) ∧ a = .lst none ((ascL qs).map num)
abbrev sAsc : Stmt := top 47
theorem scAsc : FnScope ["numbers", "found", "number", "place", "one"] ["numbers"] (defScope sAsc) := ⟨rfl, rfl, rfl, by decide +kernel, rfl, by decide +kernel, by decide +kernel⟩
theorem any_num {F : List Rat} {q : Rat} : ((F.map num).any fun z => PyData.eqv z (num q)) = decide (q ∈ F) := by
  rw [List.any_map]
  induction F with
  | nil => rfl
  | cons x F ih =>
    rw [List.any_cons, ih]
    show (PyData.eqv (num x) (num q) || _) = _
    rw [eqv_num, ← Bool.decide_or, decide_eq_decide, List.mem_cons]
    constructor
    · rintro (h | h)
      · exact .inl h.symm
      · exact .inr h
    · rintro (h | h)
      · exact .inl h.symm
      · exact .inr h
theorem c_asc {f : Addr} {fd : FuncData} (D : DefAt K mg "in_ascending_order" sAsc ["numbers"] f fd) (N : NoG mg) (C1 : Cal P w K mg base "is_less" 1 (spP K R_less)) : Cal P w K mg base "in_ascending_order" 2 (spP K R_asc) := by
  refine D.cal (pure_ok D.F scAsc (fun as a h => ?_) fun as a h cdv A outer s H Ex hr => ?_)
  · obtain ⟨qs, rfl, _⟩ := h
    rfl
  · obtain ⟨qs, rfl, ⟨hlen, hsm⟩, rfl⟩ := h
    refine .inl ⟨_, _, ss_cons (s_setP (a := .lst none []) 1 scAsc.nd (e_list a_nil rfl))
      (ss_cons (s_forL (js := [2]) (st := fun i => [some (.dat (.list (qs.map num))), some (.lst none ((ascL (qs.take i)).map num)), none, none, none]) (δd := fun i d => [some (.dat (.list (qs.map num))), some (.lst none ((ascL (qs.take i)).map num)), some (.dat d), none, none])
        (e_nm 0 rfl) rfl rfl ⟨rfl, rfl, trivial⟩ rfl (pg_name (i := 2) scAsc.nd rfl (.inr rfl)) (fun i d hi => tgx_name rfl) (fun i d hi => rfl) fun i d hi => ?_)
      (ss_one (s_ret (e_nm 1 rfl)))), ?_, trivial⟩
    · obtain ⟨q, hin, rfl⟩ := map_at hi
      have hq : Sm q := hsm q (List.mem_of_getElem? hin)
      have hnext : ascL (qs.take (i + 1)) = ascS (ascL (qs.take i)) q := foldl_take hin
      have hFl : (ascL (qs.take i)).length ≤ 1000 := by
        have := ascF_len (qs := qs.take i) (F := [])
        rw [List.length_take] at this
        simp at this
        unfold ascL
        omega
      have hFm : ∀ z ∈ ascL (qs.take i), Sm z := fun z hz => by
        rcases ascF_mem hz with h | h
        · simp at h
        · exact hsm z (List.mem_of_mem_take h)
      rw [hnext]
      generalize ascL (qs.take i) = F at *
      have hml : (F.map num).length = F.length := List.length_map _
      have hno : noLs (F.map num) = true := noLs_map noL_num _
      by_cases hc : q ∈ F
      · have e : ascS F q = F := by
          unfold ascS
          rw [if_pos hc]
        rw [e]
        exact ss_one (s_le (s_ifF (T.cast (t_cmp (op_notInD (units65 hr)) (e_nm 2 rfl) (e_nm 1 rfl) (ox_notInD (d1 := num q) (ds := F.map num) rfl rfl shaped_num ((shp_map (fun _ => shp_num) _).shaped (by decide))) rfl) (by rw [any_num, decide_eq_true hc]; rfl)) pss_no ss_nil) ⟨rfl, rfl, trivial⟩)
      · have e : ascS F q = F.take (F.filter fun z => decide (z < q)).length ++ [q] ++ F.drop (F.filter fun z => decide (z < q)).length := by
          unfold ascS
          rw [if_neg hc]
        have hk : (F.filter fun z => decide (z < q)).length ≤ F.length := List.length_filter_le _ _
        rw [e]
        refine ss_one (S.is (s_le (δ2 := [some (.dat (.list (qs.map num))), some (.lst none ((F.take (F.filter fun z => decide (z < q)).length ++ [q] ++ F.drop (F.filter fun z => decide (z < q)).length).map num)), none, none, none])
          (s_ifT (T.cast (t_cmp (op_notInD (units65 hr)) (e_nm 2 rfl) (e_nm 1 rfl) (ox_notInD (d1 := num q) (ds := F.map num) rfl rfl shaped_num ((shp_map (fun _ => shp_num) _).shaped (by decide))) rfl) (by rw [any_num, decide_eq_false hc]; rfl))
          (ss_cons (s_setP (a := di (F.filter fun z => decide (z < q)).length) 3 scAsc.nd (E.cast (e_len (e_filL (gg := num) (c := fun z => decide (z < q)) (f := num) (xs := F) (js := [4]) (own := [("one", 4)]) (δd := fun z => [some (.dat (.list (qs.map num))), some (.lst none (F.map num)), some (dn q), none, some (dn z)]) scAsc.nd (e_nm 1 rfl) (blkOk_by rfl) rfl (jn1 rfl)
              (fun s H C cl fp => pg_name (i := 4) scAsc.nd rfl (.inl rfl)) (fun z hm => tgx_name rfl) (fun z hm => Ups.set (j := 4) (d := num z) rfl)
              (fun z hm s H C cl fp => t_val (e_call C1 hr (a_cons (e_nm 4 rfl) (a_cons (e_nm 2 rfl) a_nil)) rfl ⟨z, q, rfl, ⟨hFm z hm, hq⟩, rfl⟩))
              (fun z hm _ s H C cl fp => e_nm 4 rfl) (fun _ => rfl) (by omega) rfl) rfl N.len) (by rw [List.length_map])))
            (ss_one (s_setP (a := .lst none ((F.take (F.filter fun z => decide (z < q)).length ++ [q] ++ F.drop (F.filter fun z => decide (z < q)).length).map num)) 1 scAsc.nd (E.cast (e_cat (e_cat (e_slL (e_nm 1 rfl) o_none (o_some (e_nm 3 rfl)) rfl hno) (e_list (a_cons (e_nm 2 rfl) a_nil) rfl) ?_) (e_slL (e_nm 1 rfl) (o_some (e_nm 3 rfl)) o_none rfl hno) ?_) ?_)))) pss_no) ⟨rfl, rfl, trivial⟩) rfl)
        · rw [cutD_to (by rw [hml]; exact hk), List.length_take]
          show min _ _ + 1 ≤ _
          omega
        · rw [cutD_to (by rw [hml]; exact hk), cutD_from (by rw [hml]; exact hk), List.length_append, List.length_take, List.length_drop]
          show min _ _ + 1 + _ ≤ _
          omega
        · rw [cutD_to (by rw [hml]; exact hk), cutD_from (by rw [hml]; exact hk), List.map_append, List.map_append, List.map_take, List.map_drop]
          rfl
    · refine .sl (i := 1) ?_
      rw [List.length_map, List.take_length]
      rfl
def allX (ns ms : List Nd) : List Rat := ascL ((ns ++ ms).map Nd.x)
def R_allx (C : Addr) (as : List AV) (a : AV) : Prop := ∃ ns ms : List Nd, as = [.ins C (curF ns), .ins C (curF ms)] ∧ (Good ns ∧ Good ms) ∧ a = .lst none ((allX ns ms).map num)
abbrev sAllx : Stmt := top 48
theorem scAllx : FnScope ["first", "second", "node"] ["first", "second"] (defScope sAllx) := ⟨rfl, rfl, rfl, by decide +kernel, rfl, by decide +kernel, by decide +kernel⟩
theorem c_allx {f : Addr} {fd : FuncData} (D : DefAt K mg "all_incomes" sAllx ["first", "second"] f fd) (G : CuCls K C) (C1 : Cal P w K mg base "in_ascending_order" 2 (spP K R_asc)) : Cal P w K mg base "all_incomes" 3 (spP K (R_allx C)) := by
  refine D.cal (pure_ok D.F scAllx (fun as a h => ?_) fun as a h cdv A outer s H Ex hr => ?_)
  · obtain ⟨ns, ms, rfl, _⟩ := h
    rfl
  · obtain ⟨ns, ms, rfl, ⟨g1, g2⟩, rfl⟩ := h
    exact .inl ⟨_, _, ss_one (s_ret (e_call C1 hr (a_cons (e_mapT (gg := ndD) (f := fun n => num n.x) (xs := ns ++ ms) (js := [2]) (own := [("node", 2)]) (δd := fun n => [some (.ins C (curF ns)), some (.ins C (curF ms)), some (.dat (ndD n))]) scAllx.nd (E.cast (e_catT (ds := ns.map ndD) (es' := ms.map ndD) (e_fld (e_nm 0 rfl) G.c G.n rfl) (e_fld (e_nm 1 rfl) G.c G.n rfl) (noLs_map noL_nd _) (noLs_map noL_nd _) (by rw [List.length_map, List.length_map]; have := g1.len; have := g2.len; omega) rfl rfl) (a' := .dat (.tuple ((ns ++ ms).map ndD))) (by rw [List.map_append])) (blkOk_by rfl) rfl (jn1 rfl)
        (fun s H C cl fp => pg_name (i := 2) scAllx.nd rfl (.inl rfl)) (fun n hm => tgx_name rfl) (fun n hm => Ups.set (j := 2) (d := ndD n) rfl)
        (fun n hm s H C cl fp => e_ixT (e_nm 2 rfl) e_int rfl) (fun _ => rfl) (by rw [List.length_append]; have := g1.len; have := g2.len; omega) rfl) a_nil) rfl ⟨(ns ++ ms).map Nd.x, by rw [List.map_map]; rfl, ⟨by rw [List.length_map, List.length_append]; have := g1.len; have := g2.len; omega, fun q hq => by
          obtain ⟨n, hn, rfl⟩ := List.mem_map.mp hq
          rcases List.mem_append.mp hn with h | h
          · exact (g1.la n h).x.sm
          · exact (g2.la n h).x.sm⟩, rfl⟩)), .lst, trivial⟩
theorem allX_mem {ns ms : List Nd} {q : Rat} (h : q ∈ allX ns ms) : ∃ n, (n ∈ ns ∨ n ∈ ms) ∧ n.x = q := by
  rcases ascF_mem h with h | h
  · simp at h
  · obtain ⟨n, hn, rfl⟩ := List.mem_map.mp h
    exact ⟨n, List.mem_append.mp hn, rfl⟩
theorem Good.nonneg {ns : List Nd} (g : Good ns) {n : Nd} (h : n ∈ ns) : 0 ≤ n.x := by
  obtain ⟨m, r, rfl, hx⟩ := g.head
  rcases List.mem_cons.mp h with rfl | h
  · rw [hx]
    exact Rat.le_refl
  · have := List.rel_of_pairwise_cons g.pw h
    rw [hx] at this
    grind
theorem allX_ok {ns ms : List Nd} (g1 : Good ns) (g2 : Good ms) {q : Rat} (h : q ∈ allX ns ms) : La q ∧ 0 ≤ q := by
  obtain ⟨n, hn, rfl⟩ := allX_mem h
  rcases hn with h | h
  · exact ⟨(g1.la n h).x, g1.nonneg h⟩
  · exact ⟨(g2.la n h).x, g2.nonneg h⟩
theorem allX_len {ns ms : List Nd} (g1 : Good ns) (g2 : Good ms) : (allX ns ms).length ≤ 120 := by
  have := ascF_len (qs := (ns ++ ms).map Nd.x) (F := [])
  rw [List.length_map, List.length_append, List.length_nil, Nat.zero_add] at this
  unfold allX ascL
  have := g1.len
  have := g2.len
  omega
/-! ### sums -/
def sumN (ns ms : List Nd) (q : Rat) : Nd := ⟨q, val (nr ns q) q + val (nr ms q) q, reach (nr ns q) q + reach (nr ms q) q, (nr ns q).r + (nr ms q).r⟩
def R_nsum (C : Addr) (as : List AV) (a : AV) : Prop := ∃ (ns ms : List Nd) (q : Rat), as = [.ins C (curF ns), .ins C (curF ms), dn q] ∧ (Good ns ∧ Good ms ∧ La q ∧ 0 ≤ q) ∧ a = .dat (ndD (sumN ns ms q))
abbrev sNsum : Stmt := top 49
theorem scNsum : FnScope ["first", "second", "income", "one", "other"] ["first", "second", "income"] (defScope sNsum) := ⟨rfl, rfl, rfl, by decide +kernel, rfl, by decide +kernel, by decide +kernel⟩
theorem c_nsum {f : Addr} {fd : FuncData} (D : DefAt K mg "node_sum" sNsum ["first", "second", "income"] f fd) (G : CuCls K C) (C1 : Cal P w K mg base "node_near" 6 (spP K R_near)) (C2 : Cal P w K mg base "plus" 3 (spP K (R_num2 (· + ·)))) : Cal P w K mg base "node_sum" 7 (spP K (R_nsum C)) := by
  refine D.cal (pure_ok D.F scNsum (fun as a h => ?_) fun as a h cdv A outer s H Ex hr => ?_)
  · obtain ⟨ns, ms, q, rfl, _⟩ := h
    rfl
  · obtain ⟨ns, ms, q, rfl, ⟨g1, g2, hq, h0⟩, rfl⟩ := h
    have l1 := g1.la _ (nr_mem g1 h0)
    have l2 := g2.la _ (nr_mem g2 h0)
    exact .inl ⟨_, _, ss_cons (s_par 3 4 scNsum.nd (a_cons (e_call C1 hr (a_cons (e_fld (e_nm 0 rfl) G.c G.n rfl) (a_cons (e_nm 2 rfl) a_nil)) rfl ⟨ns, q, nr ns q, rfl, ⟨g1, hq, nr_eq g1 h0⟩, rfl⟩) (a_cons (e_call C1 hr (a_cons (e_fld (e_nm 1 rfl) G.c G.n rfl) (a_cons (e_nm 2 rfl) a_nil)) rfl ⟨ms, q, nr ms q, rfl, ⟨g2, hq, nr_eq g2 h0⟩, rfl⟩) a_nil)))
      (ss_one (s_ret (E.cast (e_tup (a_cons (e_nm 2 rfl)
        (a_cons (e_call C2 (hr.mono (by decide)) (a_cons (e_ixT (e_nm 3 rfl) e_int rfl) (a_cons (e_ixT (e_nm 4 rfl) e_int rfl) a_nil)) rfl ⟨val (nr ns q) q, val (nr ms q) q, rfl, ⟨(val_bd l1 hq).sm (by decide) (by decide), (val_bd l2 hq).sm (by decide) (by decide)⟩, rfl⟩)
        (a_cons (e_call C2 (hr.mono (by decide)) (a_cons (e_ixT (e_nm 3 rfl) e_int rfl) (a_cons (e_ixT (e_nm 4 rfl) e_int rfl) a_nil)) rfl ⟨reach (nr ns q) q, reach (nr ms q) q, rfl, ⟨(reach_bd l1 hq).sm (by decide) (by decide), (reach_bd l2 hq).sm (by decide) (by decide)⟩, rfl⟩)
        (a_cons (e_call C2 (hr.mono (by decide)) (a_cons (e_ixT (e_nm 3 rfl) e_int rfl) (a_cons (e_ixT (e_nm 4 rfl) e_int rfl) a_nil)) rfl ⟨(nr ns q).r, (nr ms q).r, rfl, ⟨l1.r.sm, l2.r.sm⟩, rfl⟩) a_nil)))) rfl) rfl))), .dat rfl, trivial⟩
def sumNs (ns ms : List Nd) : List Nd := (allX ns ms).map (sumN ns ms)
def R_sum (C : Addr) (as : List AV) (a : AV) : Prop := ∃ ns ms : List Nd, as = [.ins C (curF ns), .ins C (curF ms)] ∧ (Good ns ∧ Good ms ∧ Good (sumNs ns ms)) ∧ a = .ins C (curF (prune (sumNs ns ms)))
abbrev sSum : Stmt := top 50
theorem scSum : FnScope ["first", "second", "income"] ["first", "second"] (defScope sSum) := ⟨rfl, rfl, rfl, by decide +kernel, rfl, by decide +kernel, by decide +kernel⟩
theorem c_sum {f : Addr} {fd : FuncData} (D : DefAt K mg "sum_of" sSum ["first", "second"] f fd) (C1 : KCal P w K mg base C "Curve" 6 R_cinit) (C2 : Cal P w K mg base "node_sum" 7 (spP K (R_nsum C))) (C3 : Cal P w K mg base "all_incomes" 3 (spP K (R_allx C))) : Cal P w K mg base "sum_of" 8 (spP K (R_sum C)) := by
  refine D.cal (pure_ok D.F scSum (fun as a h => ?_) fun as a h cdv A outer s H Ex hr => ?_)
  · obtain ⟨ns, ms, rfl, _⟩ := h
    rfl
  · obtain ⟨ns, ms, rfl, ⟨g1, g2, g3⟩, rfl⟩ := h
    exact .inl ⟨_, _, ss_one (s_ret (e_make C1 hr (a_cons (e_mapL (gg := num) (f := fun q => ndD (sumN ns ms q)) (xs := allX ns ms) (js := [2]) (own := [("income", 2)]) (δd := fun q => [some (.ins C (curF ns)), some (.ins C (curF ms)), some (dn q)]) scSum.nd (e_call C3 (hr.mono (by decide)) (a_cons (e_nm 0 rfl) (a_cons (e_nm 1 rfl) a_nil)) rfl ⟨ns, ms, rfl, ⟨g1, g2⟩, rfl⟩) (blkOk_by rfl) rfl (jn1 rfl)
        (fun s H C cl fp => pg_name (i := 2) scSum.nd rfl (.inl rfl)) (fun n hm => tgx_name rfl) (fun n hm => Ups.set (j := 2) (d := num n) rfl)
        (fun q hm s H C' cl fp => e_call C2 hr (a_cons (e_nm 0 rfl) (a_cons (e_nm 1 rfl) (a_cons (e_nm 2 rfl) a_nil))) rfl ⟨ns, ms, q, rfl, ⟨g1, g2, allX_ok g1 g2 hm⟩, rfl⟩) (fun _ => noL_nd _) (by have := allX_len g1 g2; omega) rfl) a_nil) rfl ⟨sumNs ns ms, by unfold sumNs; rw [List.map_map]; rfl, g3, rfl⟩)), .ins, trivial⟩
abbrev sCadd : Stmt := inClass (top 45) 3
theorem scCadd : FnScope ["self", "other"] ["self", "other"] (defScope sCadd) := ⟨rfl, rfl, rfl, by decide +kernel, rfl, by decide +kernel, by decide +kernel⟩
theorem c_cadd {f : Addr} {fd : FuncData} (D : MethAt K C "__add__" "Curve.__add__" sCadd ["self", "other"] f fd) (C1 : Cal P w K mg base "sum_of" 8 (spP K (R_sum C))) : MCal P w K mg base C "__add__" 9 (spP K (R_sum C)) := by
  refine D.cal (pure_ok D.F scCadd (fun as a h => ?_) fun as a h cdv A outer s H Ex hr => ?_)
  · obtain ⟨ns, ms, rfl, _⟩ := h
    rfl
  · obtain ⟨ns, ms, rfl, g, rfl⟩ := h
    exact .inl ⟨_, _, ss_one (s_ret (e_call C1 hr (a_cons (e_nm 0 rfl) (a_cons (e_nm 1 rfl) a_nil)) rfl ⟨ns, ms, rfl, g, rfl⟩)), .ins, trivial⟩
def subNs (ns ms : List Nd) : List Nd := sumNs ns (prune (ms.map (scN (-1))))
def R_sub (C : Addr) (as : List AV) (a : AV) : Prop := ∃ ns ms : List Nd, as = [.ins C (curF ns), .ins C (curF ms)] ∧ (Good ns ∧ Good ms ∧ Good (ms.map (scN (-1))) ∧ Good (subNs ns ms)) ∧ a = .ins C (curF (prune (subNs ns ms)))
theorem la_one : La 1 := ⟨D0, by rw [Rat.intCast_natCast]; grind, by decide⟩
abbrev sCsub : Stmt := inClass (top 45) 4
theorem scCsub : FnScope ["self", "other"] ["self", "other"] (defScope sCsub) := ⟨rfl, rfl, rfl, by decide +kernel, rfl, by decide +kernel, by decide +kernel⟩
theorem num_neg1 : num (-1) = .tuple [.int (-1), .int 1] := rfl
theorem c_csub {f : Addr} {fd : FuncData} (D : MethAt K C "__sub__" "Curve.__sub__" sCsub ["self", "other"] f fd) (C1 : Cal P w K mg base "sum_of" 8 (spP K (R_sum C))) (C2 : Cal P w K mg base "scaled_curve" 8 (spP K (R_scaled C))) : MCal P w K mg base C "__sub__" 9 (spP K (R_sub C)) := by
  refine D.cal (pure_ok D.F scCsub (fun as a h => ?_) fun as a h cdv A outer s H Ex hr => ?_)
  · obtain ⟨ns, ms, rfl, _⟩ := h
    rfl
  · obtain ⟨ns, ms, rfl, ⟨g1, g2, g3, g4⟩, rfl⟩ := h
    exact .inl ⟨_, _, ss_one (s_ret (e_call C1 hr (a_cons (e_nm 0 rfl) (a_cons (e_call C2 hr (a_cons (e_nm 1 rfl) (a_cons (e_tup (a_cons (e_neg e_int) (a_cons e_int a_nil)) rfl) a_nil)) rfl ⟨ms, -1, rfl, ⟨g2, la_one.neg, g3⟩, rfl⟩) a_nil)) rfl ⟨ns, _, rfl, ⟨g1, g3.prune, g4⟩, rfl⟩)), .ins, trivial⟩
abbrev sTimes : Stmt := inClass (top 45) 6
theorem scTimes : FnScope ["self", "number"] ["self", "number"] (defScope sTimes) := ⟨rfl, rfl, rfl, by decide +kernel, rfl, by decide +kernel, by decide +kernel⟩
theorem c_times {f : Addr} {fd : FuncData} (D : MethAt K C "times" "Curve.times" sTimes ["self", "number"] f fd) (C1 : Cal P w K mg base "scaled_curve" 8 (spP K (R_scaled C))) : MCal P w K mg base C "times" 9 (spP K (R_scaled C)) := by
  refine D.cal (pure_ok D.F scTimes (fun as a h => ?_) fun as a h cdv A outer s H Ex hr => ?_)
  · obtain ⟨ns, ms, rfl, _⟩ := h
    rfl
  · obtain ⟨ns, k, rfl, g, rfl⟩ := h
    exact .inl ⟨_, _, ss_one (s_ret (e_call C1 hr (a_cons (e_nm 0 rfl) (a_cons (e_nm 1 rfl) a_nil)) rfl ⟨ns, k, rfl, g, rfl⟩)), .ins, trivial⟩
end
end G
end EX11
section EX12
set_option Elab.async false
set_option linter.all false
set_option maxRecDepth 100000
set_option maxHeartbeats 4000000
set_option exponentiation.threshold 300000
namespace G
open PySem PySem.Spec PyProof.Rows L2
def pr2 (a b : Rat) : PyData := .tuple [num a, num b]
def pieceQ (a b c d : Rat) : Rat × Rat := if a = c then (a, maxQ b d) else if a < c then (c, d) else (a, b)
def optD : Option Rat → PyData
  | none => .none
  | some q => num q
def crossQ (q a b c d : Rat) : Option Rat := if a - c = 0 ∨ d - b = 0 then none else if 0 < (a - c) / (d - b) then some (q + (a - c) / (d - b)) else none
abbrev Bs (q : Rat) : Prop := Bd 1100 110 q
theorem noL_optD (o : Option Rat) : noL (optD o) = true := by cases o <;> rfl
section
variable {P : Program} {w : World} {K : PySem.W.Frag} {mg : Str → Option Value} {base : Heap} {C : Addr}
def R_piece (as : List AV) (r : AV) : Prop := ∃ a b c d : Rat, as = [.dat (pr2 a b), .dat (pr2 c d)] ∧ (Sm a ∧ Sm b ∧ Sm c ∧ Sm d) ∧ r = .dat (pr2 (pieceQ a b c d).1 (pieceQ a b c d).2)
abbrev sPiece : Stmt := top 52
theorem scPiece : FnScope ["first", "second"] ["first", "second"] (defScope sPiece) := ⟨rfl, rfl, rfl, by decide +kernel, rfl, by decide +kernel, by decide +kernel⟩
theorem c_piece {f : Addr} {fd : FuncData} (D : DefAt K mg "larger_piece" sPiece ["first", "second"] f fd) (C1 : Cal P w K mg base "larger_of" 2 (spP K (R_num2 maxQ))) (C2 : Cal P w K mg base "is_less" 1 (spP K R_less)) : Cal P w K mg base "larger_piece" 3 (spP K R_piece) := by
  refine D.cal (pure_ok D.F scPiece (fun as a h => ?_) fun as a h cdv A outer s H Ex hr => ?_)
  · obtain ⟨a, b, c, d, rfl, _⟩ := h
    rfl
  · obtain ⟨a, b, c, d, rfl, ⟨h1, h2, h3, h4⟩, rfl⟩ := h
    by_cases hc : a = c
    · refine .inl ⟨_, _, ss_ret (s_ifT (T.cast (t_eqN hr.units (p := a) (q := c) (e_ixT (e_nm 0 rfl) e_int rfl) (e_ixT (e_nm 1 rfl) e_int rfl)) (decide_eq_true hc))
        (ss_one (s_ret (E.cast (e_tup (a_cons (e_ixT (e_nm 0 rfl) e_int rfl) (a_cons (e_call C1 hr (a_cons (e_ixT (e_nm 0 rfl) e_int rfl) (a_cons (e_ixT (e_nm 1 rfl) e_int rfl) a_nil)) rfl ⟨b, d, rfl, ⟨h2, h4⟩, rfl⟩) a_nil)) rfl) (a' := .dat (pr2 (pieceQ a b c d).1 (pieceQ a b c d).2)) ?_))) pss_no), .dat rfl, trivial⟩
      unfold pieceQ
      rw [if_pos hc]
      rfl
    · refine .inl ⟨_, _, ss_cons (s_ifF (T.cast (t_eqN hr.units (p := a) (q := c) (e_ixT (e_nm 0 rfl) e_int rfl) (e_ixT (e_nm 1 rfl) e_int rfl)) (decide_eq_false hc)) pss_no ss_nil)
        (ss_one (s_ret (e_if (a := .dat (pr2 (pieceQ a b c d).1 (pieceQ a b c d).2)) (t_val (e_call C2 (hr.mono (by decide)) (a_cons (e_ixT (e_nm 0 rfl) e_int rfl) (a_cons (e_ixT (e_nm 1 rfl) e_int rfl) a_nil)) rfl ⟨a, c, rfl, ⟨h1, h3⟩, rfl⟩)) (fun h => E.cast (e_nm 1 rfl) ?_) (fun h => E.cast (e_nm 0 rfl) ?_)))), .dat rfl, trivial⟩
      · unfold pieceQ
        rw [if_neg hc, if_pos (of_decide_eq_true h)]
      · unfold pieceQ
        rw [if_neg hc, if_neg (of_decide_eq_false h)]
def R_cross (as : List AV) (r : AV) : Prop := ∃ q a b c d : Rat, as = [dn q, .dat (pr2 a b), .dat (pr2 c d)] ∧ (La q ∧ Bs a ∧ La b ∧ Bs c ∧ La d) ∧ r = .dat (optD (crossQ q a b c d))
abbrev sCross : Stmt := top 53
theorem scCross : FnScope ["income", "first", "second", "ahead", "faster", "way"] ["income", "first", "second"] (defScope sCross) := ⟨rfl, rfl, rfl, by decide +kernel, rfl, by decide +kernel, by decide +kernel⟩
theorem way_bd {a b c d : Rat} (h1 : Bs a) (h2 : La b) (h3 : Bs c) (h4 : La d) (hne : d - b ≠ 0) : Bd 2480 740 ((a - c) / (d - b)) := ((h1.sub h3).div (h4.bd.sub h2.bd) hne).mono (by decide) (by decide)
theorem c_cross {f : Addr} {fd : FuncData} (D : DefAt K mg "crossing" sCross ["income", "first", "second"] f fd) (Cn : Consts K mg) (C1 : Cal P w K mg base "minus" 4 (spP K (R_num2 (· - ·)))) (C2 : Cal P w K mg base "quotient" 3 (spP K R_quot)) (C3 : Cal P w K mg base "is_less" 1 (spP K R_less)) (C4 : Cal P w K mg base "plus" 3 (spP K (R_num2 (· + ·)))) : Cal P w K mg base "crossing" 5 (spP K R_cross) := by
  refine D.cal (pure_ok D.F scCross (fun as a h => ?_) fun as a h cdv A outer s H Ex hr => ?_)
  · obtain ⟨q, a, b, c, d, rfl, _⟩ := h
    rfl
  · obtain ⟨q, a, b, c, d, rfl, ⟨h0, h1, h2, h3, h4⟩, rfl⟩ := h
    have s1 : Sm a := h1.sm (by decide) (by decide)
    have s3 : Sm c := h3.sm (by decide) (by decide)
    have s5 : Sm (a - c) := (h1.sub h3).sm (by decide) (by decide)
    have b6 := h4.bd.sub h2.bd
    have s6 : Sm (d - b) := b6.sm (by decide) (by decide)
    by_cases hc1 : a - c = 0
    · have e : crossQ q a b c d = none := by
        unfold crossQ
        rw [if_pos (.inl hc1)]
      rw [e]
      exact .inl ⟨_, _, ss_cons (s_par 3 4 scCross.nd (a_cons (e_call C1 hr (a_cons (e_ixT (e_nm 1 rfl) e_int rfl) (a_cons (e_ixT (e_nm 2 rfl) e_int rfl) a_nil)) rfl ⟨a, c, rfl, ⟨s1, s3⟩, rfl⟩) (a_cons (e_call C1 hr (a_cons (e_ixT (e_nm 2 rfl) e_int rfl) (a_cons (e_ixT (e_nm 1 rfl) e_int rfl) a_nil)) rfl ⟨d, b, rfl, ⟨h4.sm, h2.sm⟩, rfl⟩) a_nil)))
        (ss_ret (s_ifT (w_pt (w_orT (T.cast (t_eqN hr.units (p := a - c) (q := 0) (e_nm 3 rfl) (e_gc Cn.zero)) (decide_eq_true hc1)) pw_no)) (ss_one (s_ret e_none)) pss_no)), .dat rfl, trivial⟩
    · by_cases hc2 : d - b = 0
      · have e : crossQ q a b c d = none := by
          unfold crossQ
          rw [if_pos (.inr hc2)]
        rw [e]
        exact .inl ⟨_, _, ss_cons (s_par 3 4 scCross.nd (a_cons (e_call C1 hr (a_cons (e_ixT (e_nm 1 rfl) e_int rfl) (a_cons (e_ixT (e_nm 2 rfl) e_int rfl) a_nil)) rfl ⟨a, c, rfl, ⟨s1, s3⟩, rfl⟩) (a_cons (e_call C1 hr (a_cons (e_ixT (e_nm 2 rfl) e_int rfl) (a_cons (e_ixT (e_nm 1 rfl) e_int rfl) a_nil)) rfl ⟨d, b, rfl, ⟨h4.sm, h2.sm⟩, rfl⟩) a_nil)))
          (ss_ret (s_ifT (w_pt (w_orF (T.cast (t_eqN hr.units (p := a - c) (q := 0) (e_nm 3 rfl) (e_gc Cn.zero)) (decide_eq_false hc1)) (w_or1 (T.cast (t_eqN hr.units (p := d - b) (q := 0) (e_nm 4 rfl) (e_gc Cn.zero)) (decide_eq_true hc2))))) (ss_one (s_ret e_none)) pss_no)), .dat rfl, trivial⟩
      · have bw := way_bd h1 h2 h3 h4 hc2
        have sw : Sm ((a - c) / (d - b)) := bw.sm (by decide) (by decide)
        refine .inl ⟨_, _, ss_cons (s_par 3 4 scCross.nd (a_cons (e_call C1 hr (a_cons (e_ixT (e_nm 1 rfl) e_int rfl) (a_cons (e_ixT (e_nm 2 rfl) e_int rfl) a_nil)) rfl ⟨a, c, rfl, ⟨s1, s3⟩, rfl⟩) (a_cons (e_call C1 hr (a_cons (e_ixT (e_nm 2 rfl) e_int rfl) (a_cons (e_ixT (e_nm 1 rfl) e_int rfl) a_nil)) rfl ⟨d, b, rfl, ⟨h4.sm, h2.sm⟩, rfl⟩) a_nil)))
          (ss_cons (s_ifF (w_pt (w_orF (T.cast (t_eqN hr.units (p := a - c) (q := 0) (e_nm 3 rfl) (e_gc Cn.zero)) (decide_eq_false hc1)) (w_or1 (T.cast (t_eqN hr.units (p := d - b) (q := 0) (e_nm 4 rfl) (e_gc Cn.zero)) (decide_eq_false hc2))))) pss_no ss_nil)
          (ss_cons (s_setP (a := dn ((a - c) / (d - b))) 5 scCross.nd (e_call C2 (hr.mono (by decide)) (a_cons (e_nm 3 rfl) (a_cons (e_nm 4 rfl) a_nil)) rfl ⟨a - c, d - b, rfl, ⟨s5, hc2, s6, Nat.lt_of_lt_of_le b6.1 (pow_le (by decide))⟩, rfl⟩))
          (ss_one (s_ret (e_if (a := .dat (optD (crossQ q a b c d))) (t_val (e_call C3 (hr.mono (by decide)) (a_cons (e_gc Cn.zero) (a_cons (e_nm 5 rfl) a_nil)) rfl ⟨0, _, rfl, ⟨sm0, sw⟩, rfl⟩)) (fun h => E.cast (e_call C4 (hr.mono (by decide)) (a_cons (e_nm 0 rfl) (a_cons (e_nm 5 rfl) a_nil)) rfl ⟨q, _, rfl, ⟨h0.sm, sw⟩, rfl⟩) ?_) (fun h => E.cast e_none ?_)))))), .dat (noL_optD _), trivial⟩
        · unfold crossQ
          rw [if_neg (fun z => z.elim hc1 hc2), if_pos (of_decide_eq_true h)]
          rfl
        · unfold crossQ
          rw [if_neg (fun z => z.elim hc1 hc2), if_neg (of_decide_eq_false h)]
          rfl
/-! ### larger_curve -/
def lgA (ns ms : List Nd) (q : Rat) : Nd :=
  let p := pieceQ (reach (nr ns q) q) (nr ns q).r (reach (nr ms q) q) (nr ms q).r
  ⟨q, maxQ (val (nr ns q) q) (val (nr ms q) q), p.1, p.2⟩
def crsQ (ns ms : List Nd) (q : Rat) : Option Rat := crossQ q (reach (nr ns q) q) (nr ns q).r (reach (nr ms q) q) (nr ms q).r
def thN (ns ms : List Nd) (q c : Rat) : Nd :=
  let t := (reach (nr ns q) q) + (nr ns q).r * (c - q)
  ⟨c, t, t, if (nr ns q).r < (nr ms q).r then (nr ms q).r else (nr ns q).r⟩
def inQ (inc : List Rat) (i : Nat) (c : Rat) : Bool := decide (i + 1 = inc.length) || decide (c < (inc[i + 1]?).getD 0)
def lgB (inc : List Rat) (ns ms : List Nd) (i : Nat) (q : Rat) : List Nd := match crsQ ns ms q with
  | none => []
  | some c => if inQ inc i c = true then [thN ns ms q c] else []
def lgNs (ns ms : List Nd) : Nat → List Nd
  | 0 => []
  | i + 1 => lgNs ns ms i ++ (match (allX ns ms)[i]? with
    | none => []
    | some q => lgA ns ms q :: lgB (allX ns ms) ns ms i q)
def largerNs (ns ms : List Nd) : List Nd := lgNs ns ms (allX ns ms).length
def R_larger (C : Addr) (as : List AV) (a : AV) : Prop := ∃ ns ms : List Nd, as = [.ins C (curF ns), .ins C (curF ms)] ∧ (Good ns ∧ Good ms ∧ Good (largerNs ns ms)) ∧ a = .ins C (curF (prune (largerNs ns ms)))
theorem lgNs_len (ns ms : List Nd) : ∀ i, (lgNs ns ms i).length ≤ 2 * i
  | 0 => Nat.le_refl _
  | i + 1 => by
    unfold lgNs
    rw [List.length_append]
    have := lgNs_len ns ms i
    split
    · simp
      omega
    · rename_i q hq
      rw [List.length_cons]
      have : (lgB (allX ns ms) ns ms i q).length ≤ 1 := by
        unfold lgB
        split
        · simp
        · split <;> simp
      omega
theorem cross_bd {q a b c d z : Rat} (h0 : La q) (h1 : Bs a) (h2 : La b) (h3 : Bs c) (h4 : La d) (h : crossQ q a b c d = some z) : Bd 3500 800 z := by
  unfold crossQ at h
  split at h
  · cases h
  · rename_i hne
    split at h
    · cases h
      exact (h0.bd.add (way_bd h1 h2 h3 h4 fun z => hne (.inr z))).mono (by decide) (by decide)
    · cases h
abbrev sLarger : Stmt := top 51
abbrev nLarger : List Str := ["first", "second", "nodes", "incomes", "place", "income", "value", "start", "slope", "other", "begin", "rise", "cross", "there", "steeper"]
theorem scLarger : FnScope nLarger ["first", "second"] (defScope sLarger) := ⟨rfl, rfl, rfl, by decide +kernel, rfl, by decide +kernel, by decide +kernel⟩
theorem c_larger {f : Addr} {fd : FuncData} (D : DefAt K mg "larger_curve" sLarger ["first", "second"] f fd) (N : NoG mg) (G : CuCls K C) (C1 : KCal P w K mg base C "Curve" 6 R_cinit) (C2 : Cal P w K mg base "all_incomes" 3 (spP K (R_allx C))) (C3 : Cal P w K mg base "node_near" 6 (spP K R_near)) (C4 : Cal P w K mg base "larger_of" 2 (spP K (R_num2 maxQ))) (C5 : Cal P w K mg base "larger_piece" 3 (spP K R_piece)) (C6 : Cal P w K mg base "crossing" 5 (spP K R_cross)) (C7 : Cal P w K mg base "is_less" 1 (spP K R_less)) (C8 : Cal P w K mg base "reached_by" 5 (spP K R_reach)) : Cal P w K mg base "larger_curve" 8 (spP K (R_larger C)) := by
  refine D.cal (pure_ok D.F scLarger (fun as a h => ?_) fun as a h cdv A outer s H Ex hr => ?_)
  · obtain ⟨ns, ms, rfl, _⟩ := h
    rfl
  · obtain ⟨ns, ms, rfl, ⟨g1, g2, g3⟩, rfl⟩ := h
    have hal := allX_len g1 g2
    refine .inl ⟨_, _, ss_cons (s_setP (a := .lst none []) 2 scLarger.nd (e_list a_nil rfl))
      (ss_cons (s_setFz (ds := (allX ns ms).map num) 3 scLarger.nd (e_call C2 (hr.mono (by decide)) (a_cons (e_nm 0 rfl) (a_cons (e_nm 1 rfl) a_nil)) rfl ⟨ns, ms, rfl, ⟨g1, g2⟩, rfl⟩))
      (ss_cons (s_forE (ds := (allX ns ms).map num) (js := [4, 5]) (st := fun i => [some (.ins C (curF ns)), some (.ins C (curF ms)), some (.lst none ((lgNs ns ms i).map ndD)), some (.fz ((allX ns ms).map num)), none, none, none, none, none, none, none, none, none, none, none])
          (δd := fun i d => [some (.ins C (curF ns)), some (.ins C (curF ms)), some (.lst none ((lgNs ns ms i).map ndD)), some (.fz ((allX ns ms).map num)), some (di i), some (.dat d), none, none, none, none, none, none, none, none, none])
          (a_cons (e_nm 3 rfl) a_nil) rfl (noLs_map noL_num _) rfl N.enumerate ⟨rfl, rfl, rfl, rfl, trivial⟩ rfl (pg_tup (n := 2) rfl (pgs_cons (pg_name (i := 4) scLarger.nd rfl (.inl rfl)) (pgs_cons (pg_name (i := 5) scLarger.nd rfl (.inl rfl)) pgs_nil)))
          (fun i d hi => tgx_tup (js := [4, 5]) (ds := [.int i, d]) ⟨rfl, rfl, trivial⟩ rfl) (fun i d hi => rfl) fun i d hi => ?_)
      (ss_one (s_ret (e_make C1 (hr.mono (by decide)) (a_cons (e_nm 2 rfl) a_nil) rfl ⟨largerNs ns ms, by rw [List.length_map]; rfl, g3, rfl⟩))))), .ins, trivial⟩
    obtain ⟨q, hin, rfl⟩ := map_at hi
    have hqm := List.mem_of_getElem? hin
    obtain ⟨hq, h0⟩ := allX_ok g1 g2 hqm
    have hilt : i < (allX ns ms).length := (List.getElem?_eq_some_iff.mp hin).1
    have l1 := g1.la _ (nr_mem g1 h0)
    have l2 := g2.la _ (nr_mem g2 h0)
    have hll := lgNs_len ns ms i
    have hnext : lgNs ns ms (i + 1) = lgNs ns ms i ++ [lgA ns ms q] ++ lgB (allX ns ms) ns ms i q := by
      rw [lgNs, hin, List.append_assoc]
      rfl
    have bs1 := reach_bd l1 hq
    have bs2 := reach_bd l2 hq
    rw [hnext]
    generalize lgNs ns ms i = F at *
    refine ss_cons (s_tup (js := [6, 7, 8]) (ds := [num (val (nr ns q) q), num (reach (nr ns q) q), num (nr ns q).r]) (e_call C3 (hr.mono (by decide)) (a_cons (e_fld (e_nm 0 rfl) G.c G.n rfl) (a_cons (e_nm 5 rfl) a_nil)) rfl ⟨ns, q, nr ns q, rfl, ⟨g1, hq, nr_eq g1 h0⟩, rfl⟩) (pgs_cons (pg_name scLarger.nd rfl (.inl rfl)) (pgs_cons (pg_name scLarger.nd rfl (.inl rfl)) (pgs_cons (pg_name scLarger.nd rfl (.inl rfl)) pgs_nil))) ⟨rfl, rfl, rfl, trivial⟩)
      (ss_cons (s_tup (js := [9, 10, 11]) (ds := [num (val (nr ms q) q), num (reach (nr ms q) q), num (nr ms q).r]) (e_call C3 (hr.mono (by decide)) (a_cons (e_fld (e_nm 1 rfl) G.c G.n rfl) (a_cons (e_nm 5 rfl) a_nil)) rfl ⟨ms, q, nr ms q, rfl, ⟨g2, hq, nr_eq g2 h0⟩, rfl⟩) (pgs_cons (pg_name scLarger.nd rfl (.inl rfl)) (pgs_cons (pg_name scLarger.nd rfl (.inl rfl)) (pgs_cons (pg_name scLarger.nd rfl (.inl rfl)) pgs_nil))) ⟨rfl, rfl, rfl, trivial⟩)
      (ss_cons (s_append (d := ndD (lgA ns ms q)) 2 (E.cast (e_catT (ds := [num q, num (maxQ (val (nr ns q) q) (val (nr ms q) q))]) (es' := [num (lgA ns ms q).s, num (lgA ns ms q).r]) (e_tup (a_cons (e_nm 5 rfl) (a_cons (e_call C4 (hr.mono (by decide)) (a_cons (e_nm 6 rfl) (a_cons (e_nm 9 rfl) a_nil)) rfl ⟨val (nr ns q) q, val (nr ms q) q, rfl, ⟨(val_bd l1 hq).sm (by decide) (by decide), (val_bd l2 hq).sm (by decide) (by decide)⟩, rfl⟩) a_nil)) rfl)
          (e_call C5 (hr.mono (by decide)) (a_cons (e_tup (a_cons (e_nm 7 rfl) (a_cons (e_nm 8 rfl) a_nil)) rfl) (a_cons (e_tup (a_cons (e_nm 10 rfl) (a_cons (e_nm 11 rfl) a_nil)) rfl) a_nil)) rfl ⟨reach (nr ns q) q, (nr ns q).r, reach (nr ms q) q, (nr ms q).r, rfl, ⟨bs1.sm (by decide) (by decide), l1.r.sm, bs2.sm (by decide) (by decide), l2.r.sm⟩, rfl⟩) rfl rfl (by simp) rfl rfl) (a' := .dat (ndD (lgA ns ms q))) rfl) rfl rfl rfl rfl (by rw [List.length_map]; omega))
      (ss_cons (s_setP (a := .dat (optD (crsQ ns ms q))) 12 scLarger.nd (e_call C6 (hr.mono (by decide)) (a_cons (e_nm 5 rfl) (a_cons (e_tup (a_cons (e_nm 7 rfl) (a_cons (e_nm 8 rfl) a_nil)) rfl) (a_cons (e_tup (a_cons (e_nm 10 rfl) (a_cons (e_nm 11 rfl) a_nil)) rfl) a_nil))) rfl ⟨q, reach (nr ns q) q, (nr ns q).r, reach (nr ms q) q, (nr ms q).r, rfl, ⟨hq, bs1, l1.r, bs2, l2.r⟩, rfl⟩))
      (ss_one ?_))))
    cases hcr : crsQ ns ms q with
    | none =>
      have e : lgB (allX ns ms) ns ms i q = [] := by
        unfold lgB
        rw [hcr]
      rw [e, List.append_nil, List.map_append]
      exact s_le (s_ifF (w_pt (w_andF (t_notN (e_nm 12 rfl) false) pw_no)) pss_no ss_nil) ⟨rfl, rfl, rfl, rfl, trivial⟩
    | some c =>
      have bc := cross_bd hq bs1 l1.r bs2 l2.r hcr
      have sc : Sm c := bc.sm (by decide) (by decide)
      have bd1 := bc.sub hq.bd
      have bd2 := l1.r.bd.mul bd1
      have e : lgB (allX ns ms) ns ms i q = if inQ (allX ns ms) i c = true then [thN ns ms q c] else [] := by
        unfold lgB
        rw [hcr]
      rw [e]
      cases hin2 : inQ (allX ns ms) i c with
      | false =>
        simp only [Bool.false_eq_true, if_false, List.append_nil, List.map_append]
        unfold inQ at hin2
        rw [Bool.or_eq_false_iff] at hin2
        have hne : i + 1 < (allX ns ms).length := by
          have := of_decide_eq_false hin2.1
          omega
        have h2 : (allX ns ms)[i + 1]? = some (allX ns ms)[i + 1] := List.getElem?_eq_getElem hne
        have hz := allX_ok g1 g2 (List.mem_of_getElem? h2)
        rw [h2] at hin2
        exact s_le (s_ifF (w_pt (w_andT (t_notN (e_nm 12 rfl) true) (w_and1 (w_pt (w_orF (T.cast (t_eqI (e_add (e_nm 4 rfl) e_int) (e_len (e_nm 3 rfl) rfl N.len)) (decide_eq_false (by rw [List.length_map]; omega))) (w_or1 (T.cast (t_val (e_call C7 (hr.mono (by decide)) (a_cons (e_nm 12 rfl) (a_cons (e_ixL (d := num (allX ns ms)[i + 1]) (e_nm 3 rfl) (e_add (e_nm 4 rfl) e_int) (by show atI ((allX ns ms).map num) (((i + 1 : Nat)) : Int) = _; rw [atI_nat (by rw [List.length_map]; exact hne), List.getElem?_map, h2]; rfl)) a_nil)) rfl ⟨c, _, rfl, ⟨sc, hz.1.sm⟩, rfl⟩)) hin2.2))))))) pss_no ss_nil) ⟨rfl, rfl, rfl, rfl, trivial⟩
      | true =>
        simp only [if_true, List.map_append]
        have hb : ∀ δ1, δ1 = [some (AV.ins C (curF ns)), some (.ins C (curF ms)), some (.lst none (F.map ndD ++ [ndD (lgA ns ms q)])), some (.fz ((allX ns ms).map num)), some (di i), some (dn q), some (dn (val (nr ns q) q)), some (dn (reach (nr ns q) q)), some (dn (nr ns q).r), some (dn (val (nr ms q) q)), some (dn (reach (nr ms q) q)), some (dn (nr ms q).r), some (dn c), none, none] → True := fun _ _ => trivial
        by_cases hi1 : i + 1 = (allX ns ms).length
        · exact S.is (s_le (δ2 := [some (.ins C (curF ns)), some (.ins C (curF ms)), some (.lst none (F.map ndD ++ [ndD (lgA ns ms q)] ++ [ndD (thN ns ms q c)])), some (.fz ((allX ns ms).map num)), none, none, none, none, none, none, none, none, none, none, none]) (s_ifT (w_pt (w_andT (t_notN (e_nm 12 rfl) true) (w_and1 (w_pt (w_orT (T.cast (t_eqI (e_add (e_nm 4 rfl) e_int) (e_len (e_nm 3 rfl) rfl N.len)) (decide_eq_true (by rw [List.length_map]; omega))) pw_no)))))
            (ss_cons (s_setP (a := dn (thN ns ms q c).s) 13 scLarger.nd (e_call C8 (hr.mono (by decide)) (a_cons (e_tup (a_cons (e_nm 5 rfl) (a_cons (e_nm 6 rfl) (a_cons (e_nm 7 rfl) (a_cons (e_nm 8 rfl) a_nil)))) rfl) (a_cons (e_nm 12 rfl) a_nil)) rfl ⟨⟨q, val (nr ns q) q, reach (nr ns q) q, (nr ns q).r⟩, c, rfl, ⟨bs1.sm (by decide) (by decide), l1.r.sm, sc, hq.sm, bd1.sm (by decide) (by decide), bd2.sm (by decide) (by decide)⟩, rfl⟩))
            (ss_cons (s_setP (a := dn (thN ns ms q c).r) 14 scLarger.nd (e_if (t_val (e_call C7 (hr.mono (by decide)) (a_cons (e_nm 8 rfl) (a_cons (e_nm 11 rfl) a_nil)) rfl ⟨(nr ns q).r, (nr ms q).r, rfl, ⟨l1.r.sm, l2.r.sm⟩, rfl⟩)) (fun h => E.cast (e_nm 11 rfl) (by unfold thN; simp only [if_pos (of_decide_eq_true h)])) (fun h => E.cast (e_nm 8 rfl) (by unfold thN; simp only [if_neg (of_decide_eq_false h)]))))
            (ss_one (s_append (d := ndD (thN ns ms q c)) 2 (e_tup (a_cons (e_nm 12 rfl) (a_cons (e_nm 13 rfl) (a_cons (e_nm 13 rfl) (a_cons (e_nm 14 rfl) a_nil)))) rfl) rfl rfl rfl rfl (by rw [List.length_append, List.length_map]; simp; omega))))) pss_no) ⟨rfl, rfl, rfl, rfl, trivial⟩) rfl
        · have hne : i + 1 < (allX ns ms).length := by omega
          have h2 : (allX ns ms)[i + 1]? = some (allX ns ms)[i + 1] := List.getElem?_eq_getElem hne
          have hz := allX_ok g1 g2 (List.mem_of_getElem? h2)
          unfold inQ at hin2
          rw [decide_eq_false hi1, Bool.false_or, h2] at hin2
          exact S.is (s_le (δ2 := [some (.ins C (curF ns)), some (.ins C (curF ms)), some (.lst none (F.map ndD ++ [ndD (lgA ns ms q)] ++ [ndD (thN ns ms q c)])), some (.fz ((allX ns ms).map num)), none, none, none, none, none, none, none, none, none, none, none]) (s_ifT (w_pt (w_andT (t_notN (e_nm 12 rfl) true) (w_and1 (w_pt (w_orF (T.cast (t_eqI (e_add (e_nm 4 rfl) e_int) (e_len (e_nm 3 rfl) rfl N.len)) (decide_eq_false (by rw [List.length_map]; omega))) (w_or1 (T.cast (t_val (e_call C7 (hr.mono (by decide)) (a_cons (e_nm 12 rfl) (a_cons (e_ixL (d := num (allX ns ms)[i + 1]) (e_nm 3 rfl) (e_add (e_nm 4 rfl) e_int) (by show atI ((allX ns ms).map num) (((i + 1 : Nat)) : Int) = _; rw [atI_nat (by rw [List.length_map]; exact hne), List.getElem?_map, h2]; rfl)) a_nil)) rfl ⟨c, _, rfl, ⟨sc, hz.1.sm⟩, rfl⟩)) hin2)))))))
            (ss_cons (s_setP (a := dn (thN ns ms q c).s) 13 scLarger.nd (e_call C8 (hr.mono (by decide)) (a_cons (e_tup (a_cons (e_nm 5 rfl) (a_cons (e_nm 6 rfl) (a_cons (e_nm 7 rfl) (a_cons (e_nm 8 rfl) a_nil)))) rfl) (a_cons (e_nm 12 rfl) a_nil)) rfl ⟨⟨q, val (nr ns q) q, reach (nr ns q) q, (nr ns q).r⟩, c, rfl, ⟨bs1.sm (by decide) (by decide), l1.r.sm, sc, hq.sm, bd1.sm (by decide) (by decide), bd2.sm (by decide) (by decide)⟩, rfl⟩))
            (ss_cons (s_setP (a := dn (thN ns ms q c).r) 14 scLarger.nd (e_if (t_val (e_call C7 (hr.mono (by decide)) (a_cons (e_nm 8 rfl) (a_cons (e_nm 11 rfl) a_nil)) rfl ⟨(nr ns q).r, (nr ms q).r, rfl, ⟨l1.r.sm, l2.r.sm⟩, rfl⟩)) (fun h => E.cast (e_nm 11 rfl) (by unfold thN; simp only [if_pos (of_decide_eq_true h)])) (fun h => E.cast (e_nm 8 rfl) (by unfold thN; simp only [if_neg (of_decide_eq_false h)]))))
            (ss_one (s_append (d := ndD (thN ns ms q c)) 2 (e_tup (a_cons (e_nm 12 rfl) (a_cons (e_nm 13 rfl) (a_cons (e_nm 13 rfl) (a_cons (e_nm 14 rfl) a_nil)))) rfl) rfl rfl rfl rfl (by rw [List.length_append, List.length_map]; simp; omega))))) pss_no) ⟨rfl, rfl, rfl, rfl, trivial⟩) rfl
abbrev sClarger : Stmt := inClass (top 45) 7
theorem scClarger : FnScope ["self", "other"] ["self", "other"] (defScope sClarger) := ⟨rfl, rfl, rfl, by decide +kernel, rfl, by decide +kernel, by decide +kernel⟩
theorem c_clarger {f : Addr} {fd : FuncData} (D : MethAt K C "larger" "Curve.larger" sClarger ["self", "other"] f fd) (C1 : Cal P w K mg base "larger_curve" 8 (spP K (R_larger C))) : MCal P w K mg base C "larger" 9 (spP K (R_larger C)) := by
  refine D.cal (pure_ok D.F scClarger (fun as a h => ?_) fun as a h cdv A outer s H Ex hr => ?_)
  · obtain ⟨ns, ms, rfl, _⟩ := h
    rfl
  · obtain ⟨ns, ms, rfl, g, rfl⟩ := h
    exact .inl ⟨_, _, ss_one (s_ret (e_call C1 hr (a_cons (e_nm 0 rfl) (a_cons (e_nm 1 rfl) a_nil)) rfl ⟨ns, ms, rfl, g, rfl⟩)), .ins, trivial⟩
end
end G
end EX12
section EX13
set_option Elab.async false
set_option linter.all false
set_option maxRecDepth 100000
set_option maxHeartbeats 4000000
set_option exponentiation.threshold 300000
namespace G
open PySem PySem.Spec PyProof.Rows L2
section
variable {X : Cx} {δ δ1 δ2 δ3 : Ab} {e1 e2 e3 : Expr} {pos : Pos} {a : AV} {ds : List PyData}
theorem t_chainI {i j k : Int} (ha : E X e1 δ (di i) δ1) (hb : E X e2 δ1 (di j) δ2) (hc : E X e3 δ2 (di k) δ3) (h1 : i ≤ j) (h2 : j ≤ k) (hm : lastMarks [.LtE, .LtE] [e2, e3] = false := by with_unfolding_all rfl) : T X (.Compare e1 [.LtE, .LtE] [e2, e3] pos) δ true δ3 :=
  pt_of (pt_chain op_le op_le ha hb hc hm) fun σ H Q ⟨B, gs, γ, hl, S0, kk⟩ => ⟨B, gs, γ, hl, S0, fun x H1 S1 => by
    have T1 : SR X.K B H1 (σ ++ (gs ++ [some x])) (δ1 ++ (γ ++ [some (di i)])) := by
      rw [← List.append_assoc, ← List.append_assoc]
      exact S1
    refine ⟨B, gs ++ [some x], γ ++ [some (di i)], SR.len3 hl S0 S1, T1, fun y H2 S2 => ?_⟩
    have T2 : SR X.K B H2 (σ ++ (gs ++ [some x] ++ [some y])) (δ2 ++ (γ ++ [some (di i)] ++ [some (di j)])) := by
      have e : ∀ {τ : Type} (p q r s : List τ), p ++ (q ++ r ++ s) = p ++ (q ++ r) ++ s := fun p q r s => by simp
      rw [e, e]
      exact S2
    have hl2 := SR.len3 (SR.len3 hl S0 S1) T1 S2
    have U2 : SR X.K B H2 (σ ++ gs ++ [some x] ++ [some y]) (δ2 ++ γ ++ [some (di i)] ++ [some (di j)]) := by
      rw [← List.append_assoc, ← List.append_assoc] at S2
      exact S2
    refine ⟨i, j, int_of U2.pop.last, int_of U2.last, decide (i ≤ j), rfl, ?_⟩
    rw [if_pos (decide_eq_true h1)]
    refine ⟨B, gs ++ [some x] ++ [some y], γ ++ [some (di i)] ++ [some (di j)], hl2, T2, fun z H3 S3 => ?_⟩
    have U3 : SR X.K B H3 (σ ++ gs ++ [some x] ++ [some y] ++ [some z]) (δ3 ++ γ ++ [some (di i)] ++ [some (di j)] ++ [some (di k)]) := by
      have e : ∀ {τ : Type} (p q r s t : List τ), p ++ (q ++ r ++ s) ++ t = p ++ q ++ r ++ s ++ t := fun p q r s t => by simp
      rw [e, e] at S3
      exact S3
    refine ⟨j, k, int_of U3.pop.last, int_of U3.last, decide (j ≤ k), rfl, ?_⟩
    rw [decide_eq_true h2]
    exact kk H3 U3.pop.pop.pop⟩
theorem e_revL {k : Nat} {p1 p2 p3 : Pos} (ha : E X e1 δ a δ1) (h1 : view δ1 a = some (.list ds)) (hn : noLs ds = true) : E X (.Subscript e1 (.Slice none none (some (.UnaryOp .USub (.Constant (.int 1) k p1) p2)) p3) pos) δ (.lst none ds.reverse) δ1 :=
  pe_of (pe_revL ha) fun σ H Q ⟨B, gs, γ, hlen, S0, kk⟩ => ⟨B, gs, γ, hlen, S0, fun x H1 S1 => by
    obtain ⟨p, vs, rfl, hq, hi⟩ := S1.list S1.last (view_app (view_app h1))
    refine ⟨p, vs, rfl, hq, fun q hq' => kk _ _ (S1.pop.pushN (same_new hq') (fun _ z => by cases z) hq' ⟨noLs_of fun d hd => noLs_mem hn (List.mem_reverse.mp hd), _, upd_same, dps_same (same_new hq') _ _ (dps_rev hi.1)⟩)⟩⟩
end
/-! ### parts -/
structure Pt where
  c : Int
  l : Rat
  h : Rat
def ptD (p : Pt) : PyData := .tuple [.int p.c, num p.l, num p.h]
theorem noL_pt (p : Pt) : noL (ptD p) = true := rfl
structure GoodP (p : Pt) : Prop where
  c1 : 1 ≤ p.c
  c9 : p.c ≤ 9
  l0 : 0 ≤ p.l
  lh : p.l ≤ p.h
  ll : Lp p.l
  hh : Lp p.h
structure GoodPs (ps : List Pt) : Prop where
  l1 : 1 ≤ ps.length
  l8 : ps.length ≤ 8
  ok : ∀ p ∈ ps, GoodP p
def rowsF (ps : List Pt) : List (Str × PyData) := [("rows", .tuple (ps.map ptD))]
structure SpCls (K : PySem.W.Frag) (C : Addr) : Prop where
  c : Cls K C
  n : NoAttr K C "rows"
section
variable {P : Program} {w : World} {K : PySem.W.Frag} {mg : Str → Option Value} {base : Heap} {C CS CR : Addr}
def R_ispart (as : List AV) (a : AV) : Prop := ∃ p : Pt, as = [.dat (ptD p)] ∧ GoodP p ∧ a = db true
abbrev sIspart : Stmt := top 57
theorem scIspart : FnScope ["value", "count", "low", "high"] ["value"] (defScope sIspart) := ⟨rfl, rfl, rfl, by decide +kernel, rfl, by decide +kernel, by decide +kernel⟩
theorem c_ispart {f : Addr} {fd : FuncData} (D : DefAt K mg "is_part" sIspart ["value"] f fd) (N : NoG mg) (Cn : Consts K mg) (C1 : Cal P w K mg base "is_number" 2 (spP K R_isnum)) (C2 : Cal P w K mg base "is_less" 1 (spP K R_less)) : Cal P w K mg base "is_part" 3 (spP K R_ispart) := by
  refine D.cal (pure_ok D.F scIspart (fun as a h => ?_) fun as a h cdv A outer s H Ex hr => ?_)
  · obtain ⟨p, rfl, _⟩ := h
    rfl
  · obtain ⟨p, rfl, g, rfl⟩ := h
    exact .inl ⟨_, _, ss_cons (s_ifF (w_pt (w_orF (t_nt (t_val (e_isi true "tuple" (e_nm 0 rfl) N.tuple N.isinstance rfl))) (w_or1 (t_neF (e_len (e_nm 0 rfl) rfl N.len) e_int)))) pss_no ss_nil)
      (ss_cons (s_tup (js := [1, 2, 3]) (ds := [.int p.c, num p.l, num p.h]) (e_nm 0 rfl) (pgs_cons (pg_name scIspart.nd rfl (.inl rfl)) (pgs_cons (pg_name scIspart.nd rfl (.inl rfl)) (pgs_cons (pg_name scIspart.nd rfl (.inl rfl)) pgs_nil))) ⟨rfl, rfl, rfl, trivial⟩)
      (ss_cons (s_ifF (w_pt (w_orF (t_nt (t_val (e_isi true "int" (e_nm 1 rfl) N.int N.isinstance rfl))) (w_orF (t_val (e_isi false "int" (e_nm 1 rfl) N.bool N.isinstance rfl)) (w_or1 (t_nt (t_chainI e_int (e_nm 1 rfl) (e_gc Cn.count) g.c1 g.c9)))))) pss_no ss_nil)
      (ss_one (s_ret (e_andT (e_call C1 hr (a_cons (e_nm 2 rfl) a_nil) rfl ⟨p.l, rfl, rfl⟩) (e_andT (e_call C1 hr (a_cons (e_nm 3 rfl) a_nil) rfl ⟨p.h, rfl, rfl⟩)
        (e_andT (E.cast (e_not (e_call C2 (hr.mono (by decide)) (a_cons (e_nm 2 rfl) (a_cons (e_gc Cn.zero) a_nil)) rfl ⟨p.l, 0, rfl, ⟨g.ll.la.sm, sm0⟩, rfl⟩)) (by rw [decide_eq_false (by have := g.l0; grind)]; rfl))
        (e_and1 (E.cast (e_not (e_call C2 (hr.mono (by decide)) (a_cons (e_nm 3 rfl) (a_cons (e_nm 2 rfl) a_nil)) rfl ⟨p.h, p.l, rfl, ⟨g.hh.la.sm, g.ll.la.sm⟩, rfl⟩)) (by rw [decide_eq_false (by have := g.lh; grind)]; rfl)))))))))), .dat rfl, trivial⟩
def R_sinit (as : List AV) (fs : List (Str × PyData)) : Prop := ∃ ps : List Pt, as = [.dat (.list (ps.map ptD))] ∧ GoodPs ps ∧ fs = rowsF ps
abbrev sSinit : Stmt := inClass (top 58) 0
theorem scSinit : FnScope ["self", "parts", "part"] ["self", "parts"] (defScope sSinit) := ⟨rfl, rfl, rfl, by decide +kernel, rfl, by decide +kernel, by decide +kernel⟩
theorem c_sinit {f : Addr} {fd : FuncData} (D : ClsAt K mg CS "Spread" "Spread.__init__" sSinit ["self", "parts"] ["rows"] f fd) (N : NoG mg) (Cn : Consts K mg) (C1 : Cal P w K mg base "is_part" 3 (spP K R_ispart)) : KCal P w K mg base CS "Spread" 4 R_sinit := by
  refine D.cal (init_ok D.F scSinit (fun as a h => ?_) fun as fs h p cdv A outer s H Ex hr => ?_)
  · obtain ⟨ps, rfl, _⟩ := h
    rfl
  · obtain ⟨ps, rfl, g, rfl⟩ := h
    exact ⟨_, ss_cons (s_ifF (w_pt (w_orF (t_nt (t_val (e_isi true "list" (e_nm 1 rfl) N.list N.isinstance rfl))) (w_or1 (t_nt (t_chainI (j := (ps.length : Int)) e_int (E.cast (e_len (e_nm 1 rfl) rfl N.len) (by rw [List.length_map])) (e_gc Cn.parts) (by have := g.l1; omega) (by have := g.l8; omega)))))) pss_no ss_nil)
      (ss_cons (s_ifF (t_nt (t_val (E.cast (e_all (bl := ps.map fun _ => true) rfl
        (E.cast (e_mapL (gg := ptD) (f := fun _ => .bool true) (xs := ps) (js := [2]) (own := [("part", 2)]) (δd := fun r => [some (.obj p CS []), some (.dat (.list (ps.map ptD))), some (.dat (ptD r))]) scSinit.nd (e_nm 1 rfl) (blkOk_by rfl) rfl (jn1 rfl) (fun s H C cl fp => pg_name (i := 2) scSinit.nd rfl (.inl rfl)) (fun r hr => tgx_name rfl) (fun r hr => Ups.set (j := 2) (d := ptD r) rfl)
          (fun r hm s H C cl fp => e_call C1 hr (a_cons (e_nm 2 rfl) a_nil) rfl ⟨r, rfl, g.ok r hm, rfl⟩) (fun _ => rfl) (by have := g.l8; omega) rfl) (a' := .lst none ((ps.map fun _ => true).map PyData.bool)) (by rw [List.map_map]; rfl)) N.all rfl) (a' := db true) (by rw [List.all_map]; exact congrArg db (List.all_eq_true.mpr fun _ _ => rfl))))) pss_no ss_nil)
      (ss_one (s_fld (d := .tuple (ps.map ptD)) 0 (e_tupleL (ds := ps.map ptD) (e_nm 1 rfl) N.tuple (noLs_map noL_pt _) rfl) rfl (noLs_map noL_pt _) rfl rfl rfl D.c (D.na _ (by simp)) (by simp)))), rfl⟩
def housQ (ps : List Pt) : Int := (ps.map Pt.c).sum
def R_hous (C : Addr) (as : List AV) (a : AV) : Prop := ∃ ps : List Pt, as = [.ins C (rowsF ps)] ∧ GoodPs ps ∧ a = di (housQ ps)
abbrev sHous : Stmt := inClass (top 58) 3
theorem scHous : FnScope ["self", "count", "low", "high"] ["self"] (defScope sHous) := ⟨rfl, rfl, rfl, by decide +kernel, rfl, by decide +kernel, by decide +kernel⟩
theorem c_hous {f : Addr} {fd : FuncData} (D : MethAt K CS "households" "Spread.households" sHous ["self"] f fd) (N : NoG mg) (G : SpCls K CS) : MCal P w K mg base CS "households" 1 (spP K (R_hous CS)) := by
  refine D.cal (pure_ok D.F scHous (fun as a h => ?_) fun as a h cdv A outer s H Ex hr => ?_)
  · obtain ⟨ps, rfl, _⟩ := h
    rfl
  · obtain ⟨ps, rfl, g, rfl⟩ := h
    exact .inl ⟨_, _, ss_one (s_ret (e_sum (is := ps.map Pt.c) rfl (E.cast (e_mapT (gg := ptD) (f := fun p => .int p.c) (xs := ps) (js := [1, 2, 3]) (own := [("count", 1), ("low", 2), ("high", 3)]) (δd := fun r => [some (.ins CS (rowsF ps)), some (di r.c), some (dn r.l), some (dn r.h)]) scHous.nd (e_fld (e_nm 0 rfl) G.c G.n rfl) (blkOk_by rfl) rfl (jn3 rfl rfl rfl)
        (fun s H C cl fp => pg_tup (n := 3) rfl (pgs_cons (pg_name (i := 1) scHous.nd rfl (.inl rfl)) (pgs_cons (pg_name (i := 2) scHous.nd rfl (.inl rfl)) (pgs_cons (pg_name (i := 3) scHous.nd rfl (.inl rfl)) pgs_nil)))) (fun r hr => tgx_tup (js := [1, 2, 3]) (ds := [.int r.c, num r.l, num r.h]) ⟨rfl, rfl, rfl, trivial⟩ rfl) (fun r hr => Free.ups (js := [1, 2, 3]) (ds := [.int r.c, num r.l, num r.h]) ⟨rfl, rfl, rfl, trivial⟩)
        (fun r hm s H C cl fp => e_nm 1 rfl) (fun _ => rfl) (by have := g.l8; omega) rfl) (a' := .lst none ((ps.map Pt.c).map .int)) (by rw [List.map_map]; rfl)) N.sum rfl)), .dat rfl, trivial⟩
/-! ### area -/
def insQ (ns : List Nd) (a b : Rat) : List Rat := (ns.filter fun n => decide (a < n.x) && decide (n.x < b)).map Nd.x
def segQ (ns : List Nd) (p : Rat × Rat) : Rat := (p.2 - p.1) * (reach (nr ns p.1) p.1 + (reach (nr ns p.1) p.1 + (nr ns p.1).r * (p.2 - p.1)))
def gridQ (ns : List Nd) (a b : Rat) : List (Rat × Rat) := (a :: insQ ns a b).zip (insQ ns a b ++ [b])
def areaQ (ns : List Nd) (a b : Rat) : Rat := (gridQ ns a b).foldl (fun t p => t + segQ ns p) 0
def D3 : Nat := D0 * (D0 * D0)
def T0 : Nat := 2 ^ 610
theorem reach_lat {n : Nd} {q : Rat} (h : La4 n) (hq : La q) : Lat (D0 * D0) (M0 + M0 * (M0 + M0)) (reach n q) := (h.s.up D0 M0 (Nat.le_refl _)).add (h.r.mul (hq.sub h.x))
theorem slope_lat {n : Nd} {p q : Rat} (h : La4 n) (hp : La p) (hq : La q) : Lat (D0 * D0) (M0 * (M0 + M0)) (n.r * (q - p)) := h.r.mul (hq.sub hp)
theorem seg_lat {n : Nd} {p q : Rat} (h : La4 n) (hp : La p) (hq : La q) : Lat D3 T0 ((q - p) * (reach n p + (reach n p + n.r * (q - p)))) :=
  ((hq.sub hp).mul ((reach_lat h hp).add ((reach_lat h hp).add (slope_lat h hp hq)))).mono (by decide)
theorem insQ_la {ns : List Nd} (g : Good ns) {a b : Rat} : ∀ q ∈ insQ ns a b, La q ∧ 0 ≤ q := fun q hq => by
  obtain ⟨n, hn, rfl⟩ := List.mem_map.mp hq
  have := (List.mem_filter.mp hn).1
  exact ⟨(g.la n this).x, g.nonneg this⟩
theorem insQ_len {ns : List Nd} (g : Good ns) {a b : Rat} : (insQ ns a b).length ≤ 60 := by
  unfold insQ
  rw [List.length_map]
  exact Nat.le_trans (List.length_filter_le _ _) g.len
theorem gridQ_la {ns : List Nd} (g : Good ns) {a b : Rat} (ha : La a) (h0 : 0 ≤ a) (hb : La b) : ∀ p ∈ gridQ ns a b, La p.1 ∧ 0 ≤ p.1 ∧ La p.2 := fun p hp => by
  have h1 := (List.of_mem_zip hp).1
  have h2 := (List.of_mem_zip hp).2
  have e1 : La p.1 ∧ 0 ≤ p.1 := by
    rcases List.mem_cons.mp h1 with h | h
    · rw [h]
      exact ⟨ha, h0⟩
    · exact insQ_la g _ h
  refine ⟨e1.1, e1.2, ?_⟩
  rcases List.mem_append.mp h2 with h | h
  · exact (insQ_la g _ h).1
  · rw [List.mem_singleton.mp h]
    exact hb
theorem fold_lat {α : Type} {D T : Nat} {f : α → Rat} : ∀ {xs : List α} {t : Rat} {N : Nat}, Lat D N t → (∀ x ∈ xs, Lat D T (f x)) → Lat D (N + xs.length * T) (xs.foldl (fun t x => t + f x) t)
  | [], t, N, h, _ => by simpa using h
  | x :: xs, t, N, h, h2 => by
    have := fold_lat (xs := xs) (h.add (h2 x List.mem_cons_self)) fun y hy => h2 y (List.mem_cons_of_mem _ hy)
    rw [List.foldl_cons, List.length_cons, Nat.succ_mul]
    exact this.mono (by omega)
theorem lat0 {D N : Nat} : Lat D N 0 := ⟨0, by grind, by simp⟩
theorem area_lat {ns : List Nd} (g : Good ns) {a b : Rat} (ha : La a) (h0 : 0 ≤ a) (hb : La b) (i : Nat) : Lat D3 (61 * T0) (((gridQ ns a b).take i).foldl (fun t p => t + segQ ns p) 0) := by
  refine (fold_lat (D := D3) (T := T0) (N := 0) (f := segQ ns) lat0 fun p hp => ?_).mono ?_
  · obtain ⟨h1, h2, h3⟩ := gridQ_la g ha h0 hb p (List.mem_of_mem_take hp)
    exact seg_lat (g.la _ (nr_mem g h2)) h1 h3
  · rw [Nat.zero_add]
    refine Nat.mul_le_mul_right _ ?_
    rw [List.length_take]
    unfold gridQ
    rw [List.length_zip, List.length_cons, List.length_append]
    have := insQ_len g (a := a) (b := b)
    simp
    omega
theorem area_lat' {ns : List Nd} (g : Good ns) {a b : Rat} (ha : La a) (h0 : 0 ≤ a) (hb : La b) : Lat D3 (61 * T0) (areaQ ns a b) := by
  have := area_lat g ha h0 hb (gridQ ns a b).length
  rw [List.take_length] at this
  exact this
theorem lat3_bd {M : Nat} {q : Rat} (h : Lat D3 M q) (hM : M ≤ 2 ^ 700) : Bd 800 80 q := (h.mono hM).bd (by decide) (by decide) (by decide)
def R_area (C : Addr) (as : List AV) (r : AV) : Prop := ∃ (ns : List Nd) (a b : Rat), as = [.ins C (curF ns), dn a, dn b] ∧ (Good ns ∧ La a ∧ 0 ≤ a ∧ La b) ∧ r = dn (areaQ ns a b)
abbrev sArea : Stmt := top 59
abbrev nArea : List Str := ["curve", "low", "high", "inside", "total", "one", "other", "value", "start", "slope", "length", "end", "node"]
theorem scArea : FnScope nArea ["curve", "low", "high"] (defScope sArea) := ⟨rfl, rfl, rfl, by decide +kernel, rfl, by decide +kernel, by decide +kernel⟩
theorem c_area {f : Addr} {fd : FuncData} (D : DefAt K mg "area" sArea ["curve", "low", "high"] f fd) (N : NoG mg) (Cn : Consts K mg) (G : CuCls K C) (C1 : Cal P w K mg base "is_less" 1 (spP K R_less)) (C2 : Cal P w K mg base "node_near" 6 (spP K R_near)) (C3 : Cal P w K mg base "minus" 4 (spP K (R_num2 (· - ·)))) (C4 : Cal P w K mg base "plus" 3 (spP K (R_num2 (· + ·)))) (C5 : Cal P w K mg base "product" 3 (spP K (R_num2 (· * ·)))) : Cal P w K mg base "area" 7 (spP K (R_area C)) := by
  refine D.cal (pure_ok D.F scArea (fun as a h => ?_) fun as a h cdv A outer s H Ex hr => ?_)
  · obtain ⟨ns, a, b, rfl, _⟩ := h
    rfl
  · obtain ⟨ns, a, b, rfl, ⟨g, ha, h0, hb⟩, rfl⟩ := h
    have hil := insQ_len g (a := a) (b := b)
    have hnl := g.len
    refine .inl ⟨_, _, ss_cons (s_setLc (a := .lst none ((insQ ns a b).map num)) 3 scArea.nd (EL.cast (l_filT (gg := ndD) (c := fun n => decide (a < n.x) && decide (n.x < b)) (f := fun n => num n.x) (xs := ns) (js := [12]) (own := [("node", 12)]) (δd := fun n => [some (.ins C (curF ns)), some (dn a), some (dn b), none, none, none, none, none, none, none, none, none, some (.dat (ndD n))]) scArea.nd (e_fld (e_nm 0 rfl) G.c G.n rfl) (blkOk_by rfl) rfl (jn1 rfl)
          (fun s H C cl fp => pg_name (i := 12) scArea.nd rfl (.inl rfl)) (fun n hm => tgx_name rfl) (fun n hm => Ups.set (j := 12) (d := ndD n) rfl)
          (fun n hm s H C cl fp => w_pt (w_and' (t_val (e_call C1 (hr.mono (by decide)) (a_cons (e_nm 1 rfl) (a_cons (e_ixT (e_nm 12 rfl) e_int rfl) a_nil)) rfl ⟨a, n.x, rfl, ⟨ha.sm, (g.la n hm).x.sm⟩, rfl⟩)) (fun _ => w_and1 (t_val (e_call C1 (hr.mono (by decide)) (a_cons (e_ixT (e_nm 12 rfl) e_int rfl) (a_cons (e_nm 2 rfl) a_nil)) rfl ⟨n.x, b, rfl, ⟨(g.la n hm).x.sm, hb.sm⟩, rfl⟩)))))
          (fun n hm _ s H C cl fp => e_ixT (e_nm 12 rfl) e_int rfl) (fun _ => rfl) (by omega) rfl) (by unfold insQ; rw [List.map_map]; rfl)))
      (ss_cons (s_setP (a := dn 0) 4 scArea.nd (e_gc Cn.zero))
      (ss_cons (s_forZ (ds := (a :: insQ ns a b).map num) (es := (insQ ns a b ++ [b]).map num) (js := [5, 6]) (st := fun i => [some (.ins C (curF ns)), some (dn a), some (dn b), some (.lst none ((insQ ns a b).map num)), some (dn (((gridQ ns a b).take i).foldl (fun t p => t + segQ ns p) 0)), none, none, none, none, none, none, none, none])
          (δd := fun i d => [some (.ins C (curF ns)), some (dn a), some (dn b), some (.lst none ((insQ ns a b).map num)), some (dn (((gridQ ns a b).take i).foldl (fun t p => t + segQ ns p) 0)), some (.dat d), some (.dat (((insQ ns a b ++ [b]).map num).getD i .none)), none, none, none, none, none, none])
          (a_cons (e_cat (ds := [num a]) (es' := (insQ ns a b).map num) (e_list (a_cons (e_nm 1 rfl) a_nil) rfl) (e_nm 3 rfl) (by rw [List.length_map]; show 1 + _ ≤ _; omega) rfl rfl rfl rfl) (a_cons (E.cast (e_cat (ds := (insQ ns a b).map num) (es' := [num b]) (e_nm 3 rfl) (e_list (a_cons (e_nm 2 rfl) a_nil) rfl) (by rw [List.length_map]; show _ + 1 ≤ _; omega) rfl rfl rfl rfl) (a' := .lst none ((insQ ns a b ++ [b]).map num)) (by rw [List.map_append]; rfl)) a_nil)) rfl rfl (by simp) (noLs_map noL_num _) (noLs_map noL_num _) rfl rfl N.zip ⟨rfl, rfl, rfl, rfl, rfl, trivial⟩ rfl (pg_tup (n := 2) rfl (pgs_cons (pg_name (i := 5) scArea.nd rfl (.inl rfl)) (pgs_cons (pg_name (i := 6) scArea.nd rfl (.inl rfl)) pgs_nil)))
          (fun i d d' hi hi' => ?_) (fun i d hi => rfl) fun i d hi => ?_)
      (ss_one (s_ret (E.cast (e_nm 4 rfl) (a' := dn (areaQ ns a b)) ?_))))), .dat rfl, trivial⟩
    · rw [List.getD_eq_getElem?_getD, hi']
      exact tgx_tup (js := [5, 6]) (ds := [d, d']) ⟨rfl, rfl, trivial⟩ rfl
    · obtain ⟨one, hin, rfl⟩ := map_at hi
      have hlt : i < (insQ ns a b).length + 1 := by
        have := (List.getElem?_eq_some_iff.mp hin).1
        simpa using this
      obtain ⟨oth, hoth⟩ : ∃ oth, (insQ ns a b ++ [b])[i]? = some oth := ⟨_, List.getElem?_eq_getElem (by simpa using hlt)⟩
      have hz : (gridQ ns a b)[i]? = some (one, oth) := by
        unfold gridQ
        rw [List.getElem?_zip_eq_some]
        exact ⟨hin, hoth⟩
      have hD : ((insQ ns a b ++ [b]).map num).getD i .none = num oth := by
        rw [List.getD_eq_getElem?_getD, List.getElem?_map, hoth]
        rfl
      rw [hD]
      have hnext : ((gridQ ns a b).take (i + 1)).foldl (fun t p => t + segQ ns p) 0 = ((gridQ ns a b).take i).foldl (fun t p => t + segQ ns p) 0 + segQ ns (one, oth) := foldl_take hz
      have hla := area_lat g ha h0 hb i
      obtain ⟨h1, h2, h3⟩ := gridQ_la g ha h0 hb (one, oth) (List.mem_of_getElem? hz)
      rw [hnext]
      generalize ((gridQ ns a b).take i).foldl (fun t p => t + segQ ns p) 0 = tot at *
      have l1 := g.la _ (nr_mem g h2)
      have b1 : Bd 800 80 (oth - one) := ((h3.sub h1).up (D0 * D0) (M0 + M0) (Nat.le_refl _) |> lat3_bd) (by decide)
      have b2 : Bd 800 80 (reach (nr ns one) one) := ((reach_lat l1 h1).bd (n := 800) (d := 80) (by decide) (by decide) (by decide))
      have b3 : Bd 800 80 ((nr ns one).r * (oth - one)) := (slope_lat l1 h1 h3).bd (by decide) (by decide) (by decide)
      have b4 : Bd 800 80 (reach (nr ns one) one + (nr ns one).r * (oth - one)) := ((reach_lat l1 h1).add (slope_lat l1 h1 h3)).bd (by decide) (by decide) (by decide)
      have b5 : Bd 800 80 (reach (nr ns one) one + (reach (nr ns one) one + (nr ns one).r * (oth - one))) := ((reach_lat l1 h1).add ((reach_lat l1 h1).add (slope_lat l1 h1 h3))).bd (by decide) (by decide) (by decide)
      have b6 : Bd 800 80 (segQ ns (one, oth)) := lat3_bd (seg_lat l1 h1 h3) (by decide)
      have b7 : Bd 800 80 tot := lat3_bd hla (by decide)
      have sm : ∀ {q : Rat}, Bd 800 80 q → Sm q := fun h => h.sm (by decide) (by decide)
      exact ss_cons (s_tup (js := [7, 8, 9]) (ds := [num (val (nr ns one) one), num (reach (nr ns one) one), num (nr ns one).r]) (e_call C2 hr (a_cons (e_fld (e_nm 0 rfl) G.c G.n rfl) (a_cons (e_nm 5 rfl) a_nil)) rfl ⟨ns, one, nr ns one, rfl, ⟨g, h1, nr_eq g h2⟩, rfl⟩) (pgs_cons (pg_name scArea.nd rfl (.inl rfl)) (pgs_cons (pg_name scArea.nd rfl (.inl rfl)) (pgs_cons (pg_name scArea.nd rfl (.inl rfl)) pgs_nil))) ⟨rfl, rfl, rfl, trivial⟩)
        (ss_cons (s_setP (a := dn (oth - one)) 10 scArea.nd (e_call C3 (hr.mono (by decide)) (a_cons (e_nm 6 rfl) (a_cons (e_nm 5 rfl) a_nil)) rfl ⟨oth, one, rfl, ⟨h3.sm, h1.sm⟩, rfl⟩))
        (ss_cons (s_setP (a := dn (reach (nr ns one) one + (nr ns one).r * (oth - one))) 11 scArea.nd (e_call C4 (hr.mono (by decide)) (a_cons (e_nm 8 rfl) (a_cons (e_call C5 (hr.mono (by decide)) (a_cons (e_nm 9 rfl) (a_cons (e_nm 10 rfl) a_nil)) rfl ⟨(nr ns one).r, oth - one, rfl, ⟨l1.r.sm, sm b1⟩, rfl⟩) a_nil)) rfl ⟨_, _, rfl, ⟨sm b2, sm b3⟩, rfl⟩))
        (ss_one (S.is (s_le (δ2 := [some (.ins C (curF ns)), some (dn a), some (dn b), some (.lst none ((insQ ns a b).map num)), some (dn (tot + segQ ns (one, oth))), none, none, none, none, none, none, none, none]) (s_setP (a := dn (tot + segQ ns (one, oth))) 4 scArea.nd (e_call C4 (hr.mono (by decide)) (a_cons (e_nm 4 rfl) (a_cons (e_call C5 (hr.mono (by decide)) (a_cons (e_nm 10 rfl) (a_cons (e_call C4 (hr.mono (by decide)) (a_cons (e_nm 8 rfl) (a_cons (e_nm 11 rfl) a_nil)) rfl ⟨_, _, rfl, ⟨sm b2, sm b4⟩, rfl⟩) a_nil)) rfl ⟨_, _, rfl, ⟨sm b1, sm b5⟩, rfl⟩) a_nil)) rfl ⟨tot, segQ ns (one, oth), rfl, ⟨sm b7, sm b6⟩, rfl⟩)) ⟨rfl, rfl, rfl, rfl, rfl, trivial⟩) rfl))))
    · unfold areaQ
      have e : ((a :: insQ ns a b).map num).length = (gridQ ns a b).length := by
        unfold gridQ
        rw [List.length_map, List.length_zip, List.length_cons, List.length_append]
        simp
      rw [e, List.take_length]
end
end G
end EX13
section EX14
set_option Elab.async false
set_option linter.all false
set_option maxRecDepth 100000
set_option maxHeartbeats 4000000
set_option exponentiation.threshold 300000
namespace G
open PySem PySem.Spec PyProof.Rows L2
/-- the net of a quotient -/
def Pm (q : Rat) : Prop := ∃ E : Nat, 0 < E ∧ E < 2 ^ 50 ∧ Lat (D3 * E) (2 ^ 690) q
theorem Pm.sm {q : Rat} (h : Pm q) : Bd 900 140 q := by
  obtain ⟨E, h0, h1, h2⟩ := h
  refine h2.bd (Nat.mul_pos (by decide) h0) (Nat.lt_of_lt_of_le (Nat.mul_lt_mul_of_pos_left h1 (by decide)) (by decide)) ?_
  exact Nat.lt_of_lt_of_le (Nat.mul_lt_mul_of_pos_left (Nat.mul_lt_mul_of_pos_left h1 (by decide)) (by decide)) (by decide)
theorem inv_lat {D M : Nat} {q : Rat} (h : Lat D M q) (h0 : q ≠ 0) (hD : 0 < D) : ∃ k : Nat, 0 < k ∧ k ≤ M * D ∧ Lat k D (1 / q) := by
  obtain ⟨k, e, b⟩ := h
  have hDr : (D : Rat) ≠ 0 := by
    intro z
    have : ((D : Int) : Rat) = ((0 : Int) : Rat) := by rw [Rat.intCast_natCast]; exact z
    have := Rat.intCast_inj.mp this
    omega
  have hk : k ≠ 0 := by
    intro z
    rw [z] at e
    have e2 : q * (D : Rat) = 0 := e
    rcases Rat.mul_eq_zero.mp e2 with h | h
    · exact h0 h
    · exact hDr h
  refine ⟨k.natAbs, by omega, b, ?_⟩
  by_cases hp : 0 ≤ k
  · refine ⟨D, ?_, ?_⟩
    · have e3 : ((k.natAbs : Nat) : Rat) = (k : Rat) := by
        rw [← Rat.intCast_natCast]
        congr 1
        omega
      rw [e3, ← e, Rat.intCast_natCast]
      grind
    · rw [Int.natAbs_natCast]
      exact Nat.le_mul_of_pos_right _ (by omega)
  · refine ⟨-(D : Int), ?_, ?_⟩
    · have e3 : ((k.natAbs : Nat) : Rat) = -(k : Rat) := by
        rw [← Rat.intCast_natCast, ← Rat.intCast_neg]
        congr 1
        omega
      rw [e3, ← e, Rat.intCast_neg, Rat.intCast_natCast]
      grind
    · rw [Int.natAbs_neg, Int.natAbs_natCast]
      exact Nat.le_mul_of_pos_right _ (by omega)
def pmQ (ns : List Nd) (a b : Rat) : Rat := if a = b then val (nr ns a) a else areaQ ns a b / (2 * (b - a))
theorem two_sub {a b : Rat} (ha : Lp a) (hb : Lp b) : Lat (1 * D0) (2 * (2 ^ 20 + 2 ^ 20)) (2 * (b - a)) := (Lat.int (i := 2) (M := 2) (by decide)).mul (hb.sub ha)
theorem sub_ne {a b : Rat} (h : a ≠ b) : b - a ≠ 0 := fun z => h (by grind)
theorem sub2_ne {a b : Rat} (h : a ≠ b) : 2 * (b - a) ≠ 0 := fun z => h (by grind)
theorem pm_ok {ns : List Nd} {a b : Rat} (g : Good ns) (ha : Lp a) (h0 : 0 ≤ a) (hb : Lp b) : Pm (pmQ ns a b) := by
  unfold pmQ
  split
  · have l := g.la _ (nr_mem g h0)
    have : Lat (D0 * D0) (M0 + M0 * (M0 + M0)) (val (nr ns a) a) := by
      unfold val
      split
      · exact (l.v.up D0 M0 (Nat.le_refl _)).mono (by decide)
      · exact reach_lat l ha.la
    refine ⟨1, by decide, by decide, ?_⟩
    have := this.up D0 (2 ^ 690) (by decide)
    rw [Nat.mul_one]
    unfold D3
    rw [← Nat.mul_assoc]
    exact this
  · rename_i hne
    obtain ⟨k, k0, k1, k2⟩ := inv_lat (two_sub ha hb) (sub2_ne hne) (by decide)
    have := (area_lat' g ha.la h0 hb.la).mul k2
    refine ⟨k, k0, Nat.lt_of_le_of_lt k1 (by decide), ?_⟩
    rw [show areaQ ns a b / (2 * (b - a)) = areaQ ns a b * (1 / (2 * (b - a))) by grind]
    exact this.mono (by decide)
theorem pm_fold {α : Type} {f : α → Rat} {c : α → Int} : ∀ {xs : List α} {t : Rat} {E N : Nat}, 0 < E → Lat (D3 * E) N t → (∀ x ∈ xs, Pm (f x) ∧ (c x).natAbs ≤ 9) → ∃ E', 0 < E' ∧ E' ≤ E * (2 ^ 50) ^ xs.length ∧ Lat (D3 * E') (N + xs.length * (9 * 2 ^ 690)) (xs.foldl (fun t x => t + (c x : Rat) * f x) t)
  | [], t, E, N, h0, h, _ => ⟨E, h0, by simp, by simpa using h⟩
  | x :: xs, t, E, N, h0, h, h2 => by
    obtain ⟨⟨F, f0, f1, f2⟩, hc⟩ := h2 x List.mem_cons_self
    have a1 : Lat (D3 * (E * F)) N t := by
      rw [← Nat.mul_assoc]
      exact h.up F N (Nat.le_refl _)
    have a2 : Lat (D3 * (E * F)) (9 * 2 ^ 690) ((c x : Rat) * f x) := by
      have := ((Lat.int (i := c x) (M := 9) hc).mul f2).up E (9 * 2 ^ 690) (Nat.le_refl _)
      rw [show D3 * (E * F) = 1 * (D3 * F) * E by grind]
      exact this
    obtain ⟨E', e0, e1, e2⟩ := pm_fold (xs := xs) (f := f) (c := c) (E := E * F) (Nat.mul_pos h0 f0) (a1.add a2) fun y hy => h2 y (List.mem_cons_of_mem _ hy)
    refine ⟨E', e0, Nat.le_trans e1 ?_, ?_⟩
    · rw [List.length_cons]
      generalize (2 : Nat) ^ 50 = W at *
      rw [Nat.pow_succ, Nat.mul_assoc, Nat.mul_comm (W ^ xs.length) W]
      exact Nat.mul_le_mul_left _ (Nat.mul_le_mul_right _ (Nat.le_of_lt f1))
    · rw [List.foldl_cons, List.length_cons, Nat.succ_mul]
      exact e2.mono (by omega)
theorem pm_tot {α : Type} {f : α → Rat} {c : α → Int} {xs : List α} (hl : xs.length ≤ 8) (h : ∀ x ∈ xs, Pm (f x) ∧ (c x).natAbs ≤ 9) (i : Nat) : Bd 1400 500 ((xs.take i).foldl (fun t x => t + (c x : Rat) * f x) 0) := by
  have hli : (xs.take i).length ≤ 8 := by rw [List.length_take]; omega
  obtain ⟨E, e0, e1, e2⟩ := pm_fold (xs := xs.take i) (t := 0) (E := 1) (N := 0) (f := f) (c := c) (by decide) lat0 fun x hx => h x (List.mem_of_mem_take hx)
  have e3 : E ≤ 2 ^ 400 := by
    refine Nat.le_trans e1 ?_
    rw [Nat.one_mul, ← Nat.pow_mul]
    exact pow_le (by omega)
  have e4 : D3 * E ≤ 2 ^ 499 := Nat.le_trans (Nat.mul_le_mul_left _ e3) (by decide)
  refine (e2.mono (N := 8 * (9 * 2 ^ 690)) (by rw [Nat.zero_add]; exact Nat.mul_le_mul_right _ hli)).bd (Nat.mul_pos (by decide) e0) (Nat.lt_of_le_of_lt e4 (by decide)) ?_
  exact Nat.lt_of_le_of_lt (Nat.mul_le_mul_left _ e4) (by decide)
def totQ (ns : List Nd) (ps : List Pt) : Rat := ps.foldl (fun t p => t + (p.c : Rat) * pmQ ns p.l p.h) 0
def meanQ (ns : List Nd) (ps : List Pt) : Rat := totQ ns ps / (housQ ps : Rat)
theorem sum_bound : ∀ {ps : List Pt}, (∀ p ∈ ps, GoodP p) → (ps.length : Int) ≤ (ps.map Pt.c).sum ∧ (ps.map Pt.c).sum ≤ 9 * ps.length
  | [], _ => ⟨by simp, by simp⟩
  | p :: ps, h => by
    obtain ⟨h1, h2⟩ := sum_bound (ps := ps) fun q hq => h q (List.mem_cons_of_mem _ hq)
    have g := h p List.mem_cons_self
    have := g.c1
    have := g.c9
    rw [List.map_cons, List.sum_cons, List.length_cons]
    omega
theorem hous_ok {ps : List Pt} (g : GoodPs ps) : 1 ≤ housQ ps ∧ housQ ps ≤ 72 := by
  have := sum_bound g.ok
  have := g.l1
  have := g.l8
  unfold housQ
  omega
theorem int_bd {i : Int} {n : Nat} (h : i.natAbs < 2 ^ n) : Bd n 1 (i : Rat) := ⟨by rw [Rat.num_intCast]; exact h, by rw [Rat.den_intCast]; decide⟩
theorem hous_dv {ps : List Pt} (g : GoodPs ps) : Bd 7 1 (housQ ps : Rat) ∧ (housQ ps : Rat) ≠ 0 := by
  have h := hous_ok g
  refine ⟨int_bd (by omega), fun z => ?_⟩
  have : housQ ps = 0 := Rat.intCast_inj.mp z
  omega
theorem dv_hous {ps : List Pt} (g : GoodPs ps) : Dv (housQ ps : Rat) := ⟨(hous_dv g).2, (hous_dv g).1.sm (by decide) (by decide), Nat.lt_of_lt_of_le (hous_dv g).1.1 (pow_le (by decide))⟩
theorem GoodP.cabs {p : Pt} (g : GoodP p) : p.c.natAbs ≤ 9 := by
  have := g.c1
  have := g.c9
  omega
section
variable {P : Program} {w : World} {K : PySem.W.Frag} {mg : Str → Option Value} {base : Heap} {C CS CR : Addr}
def R_pm (C : Addr) (as : List AV) (r : AV) : Prop := ∃ (ns : List Nd) (a b : Rat), as = [.ins C (curF ns), dn a, dn b] ∧ (Good ns ∧ Lp a ∧ 0 ≤ a ∧ Lp b) ∧ r = dn (pmQ ns a b)
abbrev sPm : Stmt := top 60
theorem scPm : FnScope ["curve", "low", "high"] ["curve", "low", "high"] (defScope sPm) := ⟨rfl, rfl, rfl, by decide +kernel, rfl, by decide +kernel, by decide +kernel⟩
theorem c_pm {f : Addr} {fd : FuncData} (D : DefAt K mg "part_mean" sPm ["curve", "low", "high"] f fd) (hfi : ∀ g, PySem.W.findIn K (.ref C) "__call__" = some (some (.ref g)) → PySem.W.fnIn K g = true) (C1 : MCal P w K mg base C "__call__" 7 (spP K (R_ccall C))) (C2 : Cal P w K mg base "area" 7 (spP K (R_area C))) (C3 : Cal P w K mg base "quotient" 3 (spP K R_quot)) (C4 : Cal P w K mg base "product" 3 (spP K (R_num2 (· * ·)))) (C5 : Cal P w K mg base "minus" 4 (spP K (R_num2 (· - ·)))) : Cal P w K mg base "part_mean" 8 (spP K (R_pm C)) := by
  refine D.cal (pure_ok D.F scPm (fun as a h => ?_) fun as a h cdv A outer s H Ex hr => ?_)
  · obtain ⟨ns, a, b, rfl, _⟩ := h
    rfl
  · obtain ⟨ns, a, b, rfl, ⟨g, ha, h0, hb⟩, rfl⟩ := h
    by_cases hc : a = b
    · have e : pmQ ns a b = val (nr ns a) a := by
        unfold pmQ
        rw [if_pos hc]
      rw [e]
      exact .inl ⟨_, _, ss_ret (s_ifT (T.cast (t_eqN hr.units (p := a) (q := b) (e_nm 1 rfl) (e_nm 2 rfl)) (decide_eq_true hc)) (ss_one (s_ret (e_callO C1 hfi hr (e_nm 0 rfl) (a_cons (e_nm 1 rfl) a_nil) rfl ⟨ns, a, rfl, ⟨g, ha.la, h0⟩, rfl⟩))) pss_no), .dat rfl, trivial⟩
    · have e : pmQ ns a b = areaQ ns a b / (2 * (b - a)) := by
        unfold pmQ
        rw [if_neg hc]
      rw [e]
      have bs := hb.sub ha
      have b2 : Bd 80 30 (2 * (b - a)) := (two_sub ha hb).bd (by decide) (by decide) (by decide)
      exact .inl ⟨_, _, ss_cons (s_ifF (T.cast (t_eqN hr.units (p := a) (q := b) (e_nm 1 rfl) (e_nm 2 rfl)) (decide_eq_false hc)) pss_no ss_nil)
        (ss_one (s_ret (e_call C3 (hr.mono (by decide)) (a_cons (e_call C2 hr (a_cons (e_nm 0 rfl) (a_cons (e_nm 1 rfl) (a_cons (e_nm 2 rfl) a_nil))) rfl ⟨ns, a, b, rfl, ⟨g, ha.la, h0, hb.la⟩, rfl⟩)
          (a_cons (e_call C4 (hr.mono (by decide)) (a_cons (e_tup (a_cons e_int (a_cons e_int a_nil)) rfl) (a_cons (e_call C5 (hr.mono (by decide)) (a_cons (e_nm 2 rfl) (a_cons (e_nm 1 rfl) a_nil)) rfl ⟨b, a, rfl, ⟨hb.la.sm, ha.la.sm⟩, rfl⟩) a_nil)) rfl ⟨2, b - a, rfl, ⟨⟨by decide, by decide⟩, (bs.bd (n := 80) (d := 30) (by decide) (by decide) (by decide)).sm (by decide) (by decide)⟩, rfl⟩) a_nil)) rfl
          ⟨areaQ ns a b, 2 * (b - a), rfl, ⟨(lat3_bd (area_lat' g ha.la h0 hb.la) (by decide)).sm (by decide) (by decide), sub2_ne hc, b2.sm (by decide) (by decide), Nat.lt_of_lt_of_le b2.1 (pow_le (by decide))⟩, rfl⟩))), .dat rfl, trivial⟩
def R_mean (C CS : Addr) (as : List AV) (r : AV) : Prop := ∃ (ns : List Nd) (ps : List Pt), as = [.ins C (curF ns), .ins CS (rowsF ps)] ∧ (Good ns ∧ GoodPs ps) ∧ r = dn (meanQ ns ps)
abbrev sMean : Stmt := top 61
theorem scMean : FnScope ["curve", "spread", "total", "count", "low", "high"] ["curve", "spread"] (defScope sMean) := ⟨rfl, rfl, rfl, by decide +kernel, rfl, by decide +kernel, by decide +kernel⟩
theorem c_mean {f : Addr} {fd : FuncData} (D : DefAt K mg "mean" sMean ["curve", "spread"] f fd) (Cn : Consts K mg) (G : SpCls K CS) (C1 : Cal P w K mg base "part_mean" 8 (spP K (R_pm C))) (C2 : Cal P w K mg base "plus" 3 (spP K (R_num2 (· + ·)))) (C3 : Cal P w K mg base "quotient" 3 (spP K R_quot)) (C4 : Cal P w K mg base "product" 3 (spP K (R_num2 (· * ·)))) (C5 : MCal P w K mg base CS "households" 1 (spP K (R_hous CS))) : Cal P w K mg base "mean" 9 (spP K (R_mean C CS)) := by
  refine D.cal (pure_ok D.F scMean (fun as a h => ?_) fun as a h cdv A outer s H Ex hr => ?_)
  · obtain ⟨ns, ps, rfl, _⟩ := h
    rfl
  · obtain ⟨ns, ps, rfl, ⟨g, gp⟩, rfl⟩ := h
    have htot := pm_tot (xs := ps) (f := fun p => pmQ ns p.l p.h) (c := Pt.c) gp.l8 fun p hp => ⟨pm_ok g (gp.ok p hp).ll (gp.ok p hp).l0 (gp.ok p hp).hh, (gp.ok p hp).cabs⟩
    have htl := htot ps.length
    rw [List.take_length] at htl
    refine .inl ⟨_, _, ss_cons (s_setP (a := dn 0) 2 scMean.nd (e_gc Cn.zero))
      (ss_cons (s_forT (js := [3, 4, 5]) (ds := ps.map ptD) (st := fun i => [some (.ins C (curF ns)), some (.ins CS (rowsF ps)), some (dn ((ps.take i).foldl (fun t p => t + (p.c : Rat) * pmQ ns p.l p.h) 0)), none, none, none]) (δd := fun i d => [some (.ins C (curF ns)), some (.ins CS (rowsF ps)), some (dn ((ps.take i).foldl (fun t p => t + (p.c : Rat) * pmQ ns p.l p.h) 0)), some (.dat (tat d 0)), some (.dat (tat d 1)), some (.dat (tat d 2))])
        (e_fld (e_nm 1 rfl) G.c G.n rfl) rfl rfl ⟨rfl, rfl, rfl, trivial⟩ rfl (pg_tup (n := 3) rfl (pgs_cons (pg_name (i := 3) scMean.nd rfl (.inl rfl)) (pgs_cons (pg_name (i := 4) scMean.nd rfl (.inl rfl)) (pgs_cons (pg_name (i := 5) scMean.nd rfl (.inl rfl)) pgs_nil)))) (fun i d hi => ?_) (fun i d hi => rfl) fun i d hi => ?_)
      (ss_one (s_ret (e_call C3 (hr.mono (by decide)) (a_cons (e_nm 2 rfl) (a_cons (e_tup (ds := [.int (housQ ps), .int 1]) (a_cons (e_meth0 C5 (hr.mono (by decide)) (e_nm 1 rfl) rfl ⟨ps, rfl, gp, rfl⟩) (a_cons e_int a_nil)) rfl) a_nil)) rfl ⟨totQ ns ps, (housQ ps : Rat), by rw [List.length_map, List.take_length]; rfl, ⟨htl.sm (by decide) (by decide), dv_hous gp⟩, rfl⟩)))), .dat rfl, trivial⟩
    · obtain ⟨p, hip, rfl⟩ := map_at hi
      exact tgx_tup (js := [3, 4, 5]) (ds := [.int p.c, num p.l, num p.h]) ⟨rfl, rfl, rfl, trivial⟩ rfl
    · obtain ⟨p, hip, rfl⟩ := map_at hi
      have hp := gp.ok p (List.mem_of_getElem? hip)
      have hnext : (ps.take (i + 1)).foldl (fun t p => t + (p.c : Rat) * pmQ ns p.l p.h) 0 = (ps.take i).foldl (fun t p => t + (p.c : Rat) * pmQ ns p.l p.h) 0 + (p.c : Rat) * pmQ ns p.l p.h := foldl_take hip
      have ht := htot i
      have hpm := pm_ok g hp.ll hp.l0 hp.hh
      have hcb : Bd 5 1 (p.c : Rat) := int_bd (by have := hp.cabs; omega)
      rw [hnext]
      generalize (ps.take i).foldl (fun t p => t + (p.c : Rat) * pmQ ns p.l p.h) 0 = tot at *
      exact ss_one (S.is (s_le (δ2 := [some (.ins C (curF ns)), some (.ins CS (rowsF ps)), some (dn (tot + (p.c : Rat) * pmQ ns p.l p.h)), none, none, none]) (s_setP (a := dn (tot + (p.c : Rat) * pmQ ns p.l p.h)) 2 scMean.nd (e_call C2 (hr.mono (by decide)) (a_cons (e_nm 2 rfl) (a_cons (e_call C4 (hr.mono (by decide)) (a_cons (e_tup (ds := [.int p.c, .int 1]) (a_cons (e_nm 3 rfl) (a_cons e_int a_nil)) rfl) (a_cons (e_call C1 hr (a_cons (e_nm 0 rfl) (a_cons (e_nm 4 rfl) (a_cons (e_nm 5 rfl) a_nil))) rfl ⟨ns, p.l, p.h, rfl, ⟨g, hp.ll, hp.l0, hp.hh⟩, rfl⟩) a_nil)) rfl ⟨(p.c : Rat), pmQ ns p.l p.h, rfl, ⟨hcb.sm (by decide) (by decide), hpm.sm.sm (by decide) (by decide)⟩, rfl⟩) a_nil)) rfl ⟨tot, _, rfl, ⟨ht.sm (by decide) (by decide), (hcb.mul hpm.sm).sm (by decide) (by decide)⟩, rfl⟩)) ⟨rfl, rfl, rfl, trivial⟩) rfl)
/-! ### shares -/
def oneQ (a : Rat) (o : Option (Rat × Bool)) : Rat := match o with
  | none => a
  | some (q, _) => maxQ a q
def othQ (b : Rat) (o : Option (Rat × Bool)) : Rat := match o with
  | none => b
  | some (q, _) => minQ b q
def lenS (a b : Rat) (r : Rg) : Rat := if oneQ a r.lo < othQ b r.hi then othQ b r.hi - oneQ a r.lo else 0
def lenQ (rs : List Rg) (a b : Rat) : Rat := rs.foldl (fun t r => t + lenS a b r) 0
def laO : Option (Rat × Bool) → Prop
  | none => True
  | some (q, _) => La q
def laRg (r : Rg) : Prop := laO r.lo ∧ laO r.hi
theorem oneQ_la {a : Rat} {o : Option (Rat × Bool)} (ha : La a) (h : laO o) : La (oneQ a o) := by
  cases o with
  | none => exact ha
  | some qb =>
    show La (maxQ a qb.1)
    unfold maxQ
    split
    · exact h
    · exact ha
theorem othQ_la {a : Rat} {o : Option (Rat × Bool)} (ha : La a) (h : laO o) : La (othQ a o) := by
  cases o with
  | none => exact ha
  | some qb =>
    show La (minQ a qb.1)
    unfold minQ
    split
    · exact h
    · exact ha
theorem lenS_la {a b : Rat} {r : Rg} (ha : La a) (hb : La b) (h : laRg r) : Lat D0 (M0 + M0) (lenS a b r) := by
  unfold lenS
  split
  · exact (othQ_la hb h.2).sub (oneQ_la ha h.1)
  · exact lat0
theorem len_lat {rs : List Rg} {a b : Rat} (ha : La a) (hb : La b) (hl : rs.length ≤ 900) (h : ∀ r ∈ rs, laRg r) (i : Nat) : Lat D0 (900 * (M0 + M0)) ((rs.take i).foldl (fun t r => t + lenS a b r) 0) :=
  (fold_lat (D := D0) (T := M0 + M0) (N := 0) (f := lenS a b) lat0 fun r hr => lenS_la ha hb (h r (List.mem_of_mem_take hr))).mono (by rw [Nat.zero_add]; exact Nat.mul_le_mul_right _ (by rw [List.length_take]; omega))
theorem len_bd {q : Rat} (h : Lat D0 (900 * (M0 + M0)) q) : Bd 300 30 q := h.bd (by decide) (by decide) (by decide)
def rgl (ps : List Pr) : List Rg := ps.map fun p => rgOf p.1 p.2
def R_len (C : Addr) (as : List AV) (r : AV) : Prop := ∃ (ps : List Pr) (a b : Rat), as = [.ins C (rgsF ps), dn a, dn b] ∧ (ps.length ≤ 900 ∧ (∀ r ∈ rgl ps, laRg r) ∧ La a ∧ La b) ∧ r = dn (lenQ (rgl ps) a b)
abbrev sLen : Stmt := top 62
abbrev nLen : List Str := ["ranges", "low", "high", "total", "first", "with_first", "last", "with_last", "one", "other"]
theorem scLen : FnScope nLen ["ranges", "low", "high"] (defScope sLen) := ⟨rfl, rfl, rfl, by decide +kernel, rfl, by decide +kernel, by decide +kernel⟩
theorem lsm {q : Rat} (h : La q) : Sm q := La.sm h
theorem c_len {f : Addr} {fd : FuncData} (D : DefAt K mg "length_within" sLen ["ranges", "low", "high"] f fd) (Cn : Consts K mg) (G : RgCls K C) (C1 : Cal P w K mg base "larger_of" 2 (spP K (R_num2 maxQ))) (C2 : Cal P w K mg base "smaller_of" 2 (spP K (R_num2 minQ))) (C3 : Cal P w K mg base "is_less" 1 (spP K R_less)) (C4 : Cal P w K mg base "plus" 3 (spP K (R_num2 (· + ·)))) (C5 : Cal P w K mg base "minus" 4 (spP K (R_num2 (· - ·)))) : Cal P w K mg base "length_within" 5 (spP K (R_len C)) := by
  refine D.cal (pure_ok D.F scLen (fun as a h => ?_) fun as a h cdv A outer s H Ex hr => ?_)
  · obtain ⟨ns, a, b, rfl, _⟩ := h
    rfl
  · obtain ⟨ps, a, b, rfl, ⟨hl, hla, ha, hb⟩, rfl⟩ := h
    have hrl : (rgl ps).length ≤ 900 := by
      unfold rgl
      rw [List.length_map]
      exact hl
    have hfld : (rgsF ps).lookup ("ranges" : Str) = some (.tuple ((rgl ps).map rgD)) := by
      unfold rgl
      rw [List.map_map]
      rfl
    refine .inl ⟨_, _, ss_cons (s_setP (a := dn 0) 3 scLen.nd (e_gc Cn.zero))
      (ss_cons (s_forT (js := [4, 5, 6, 7]) (ds := (rgl ps).map rgD) (st := fun i => [some (.ins C (rgsF ps)), some (dn a), some (dn b), some (dn (((rgl ps).take i).foldl (fun t r => t + lenS a b r) 0)), none, none, none, none, none, none]) (δd := fun i d => [some (.ins C (rgsF ps)), some (dn a), some (dn b), some (dn (((rgl ps).take i).foldl (fun t r => t + lenS a b r) 0)), some (.dat (tat d 0)), some (.dat (tat d 1)), some (.dat (tat d 2)), some (.dat (tat d 3)), none, none])
        (e_fld (e_nm 0 rfl) G.c G.r hfld) rfl rfl ⟨rfl, rfl, rfl, rfl, trivial⟩ rfl (pg_tup (n := 4) rfl (pgs_cons (pg_name (i := 4) scLen.nd rfl (.inl rfl)) (pgs_cons (pg_name (i := 5) scLen.nd rfl (.inl rfl)) (pgs_cons (pg_name (i := 6) scLen.nd rfl (.inl rfl)) (pgs_cons (pg_name (i := 7) scLen.nd rfl (.inl rfl)) pgs_nil))))) (fun i d hi => ?_) (fun i d hi => rfl) fun i d hi => ?_)
      (ss_one (s_ret (E.cast (e_nm 3 rfl) (a' := dn (lenQ (rgl ps) a b)) (by rw [List.length_map, List.take_length]; rfl))))), .dat rfl, trivial⟩
    · obtain ⟨⟨lo, hi2⟩, hip, rfl⟩ := map_at hi
      rcases lo with _ | ⟨q1, b1⟩ <;> rcases hi2 with _ | ⟨q2, b2⟩
      · exact tgx_tup (js := [4, 5, 6, 7]) (ds := [.none, .bool false, .none, .bool false]) ⟨rfl, rfl, rfl, rfl, trivial⟩ rfl
      · exact tgx_tup (js := [4, 5, 6, 7]) (ds := [.none, .bool false, num q2, .bool b2]) ⟨rfl, rfl, rfl, rfl, trivial⟩ rfl
      · exact tgx_tup (js := [4, 5, 6, 7]) (ds := [num q1, .bool b1, .none, .bool false]) ⟨rfl, rfl, rfl, rfl, trivial⟩ rfl
      · exact tgx_tup (js := [4, 5, 6, 7]) (ds := [num q1, .bool b1, num q2, .bool b2]) ⟨rfl, rfl, rfl, rfl, trivial⟩ rfl
    · obtain ⟨r, hip, rfl⟩ := map_at hi
      have hr2 := hla r (List.mem_of_getElem? hip)
      have hnext : ((rgl ps).take (i + 1)).foldl (fun t r => t + lenS a b r) 0 = ((rgl ps).take i).foldl (fun t r => t + lenS a b r) 0 + lenS a b r := foldl_take hip
      have ht := len_bd (len_lat ha hb hrl hla i)
      have h1 := oneQ_la ha hr2.1
      have h2 := othQ_la hb hr2.2
      rw [hnext]
      generalize ((rgl ps).take i).foldl (fun t r => t + lenS a b r) 0 = tot at *
      refine ss_cons (s_setP (a := dn (oneQ a r.lo)) 8 scLen.nd ?_) (ss_cons (s_setP (a := dn (othQ b r.hi)) 9 scLen.nd ?_) (ss_one (S.is (s_le (δ1 := [some (.ins C (rgsF ps)), some (dn a), some (dn b), some (dn (tot + lenS a b r)), some (.dat (tat (rgD r) 0)), some (.dat (tat (rgD r) 1)), some (.dat (tat (rgD r) 2)), some (.dat (tat (rgD r) 3)), some (dn (oneQ a r.lo)), some (dn (othQ b r.hi))]) (δ2 := [some (.ins C (rgsF ps)), some (dn a), some (dn b), some (dn (tot + lenS a b r)), none, none, none, none, none, none]) (s_if (t_val (e_call C3 (hr.mono (by decide)) (a_cons (e_nm 8 rfl) (a_cons (e_nm 9 rfl) a_nil)) rfl ⟨_, _, rfl, ⟨lsm h1, lsm h2⟩, rfl⟩)) (fun h => ?_) (fun h => ?_)) ⟨rfl, rfl, rfl, rfl, trivial⟩) rfl)))
      · obtain ⟨lo, hi2⟩ := r
        rcases lo with _ | ⟨q1, b1⟩
        · rcases hi2 with _ | ⟨q2, b2⟩ <;> exact e_ifT (t_isN (e_nm 4 rfl) true) (e_nm 1 rfl) pe_no
        · rcases hi2 with _ | ⟨q2, b2⟩ <;> exact e_ifF (t_isN (e_nm 4 rfl) false) pe_no (e_call C1 (hr.mono (by decide)) (a_cons (e_nm 1 rfl) (a_cons (e_nm 4 rfl) a_nil)) rfl ⟨a, q1, rfl, ⟨lsm ha, lsm hr2.1⟩, rfl⟩)
      · obtain ⟨lo, hi2⟩ := r
        rcases hi2 with _ | ⟨q2, b2⟩
        · rcases lo with _ | ⟨q1, b1⟩ <;> exact e_ifT (t_isN (e_nm 6 rfl) true) (e_nm 2 rfl) pe_no
        · rcases lo with _ | ⟨q1, b1⟩ <;> exact e_ifF (t_isN (e_nm 6 rfl) false) pe_no (e_call C2 (hr.mono (by decide)) (a_cons (e_nm 2 rfl) (a_cons (e_nm 6 rfl) a_nil)) rfl ⟨b, q2, rfl, ⟨lsm hb, lsm hr2.2⟩, rfl⟩)
      · have e : lenS a b r = othQ b r.hi - oneQ a r.lo := by
          unfold lenS
          rw [if_pos (of_decide_eq_true h)]
        rw [e]
        exact ss_one (s_setP (a := dn (tot + (othQ b r.hi - oneQ a r.lo))) 3 scLen.nd (e_call C4 (hr.mono (by decide)) (a_cons (e_nm 3 rfl) (a_cons (e_call C5 hr (a_cons (e_nm 9 rfl) (a_cons (e_nm 8 rfl) a_nil)) rfl ⟨_, _, rfl, ⟨lsm h2, lsm h1⟩, rfl⟩) a_nil)) rfl ⟨tot, _, rfl, ⟨ht.sm (by decide) (by decide), ((La.bd h2).sub (La.bd h1)).sm (by decide) (by decide)⟩, rfl⟩))
      · have e : lenS a b r = 0 := by
          unfold lenS
          rw [if_neg (of_decide_eq_false h)]
        rw [e, show tot + 0 = tot by grind]
        exact ss_nil
def shQ (ps : List Pr) (a b : Rat) : Rat := if a = b then (if ps.any (inRg a) = true then 1 else 0) else lenQ (rgl ps) a b / (b - a)
def shTot (ps : List Pr) (qs : List Pt) : Rat := qs.foldl (fun t p => t + (p.c : Rat) * shQ ps p.l p.h) 0
def shareQ (ps : List Pr) (qs : List Pt) : Rat := shTot ps qs / (housQ qs : Rat)
structure GoodR (ps : List Pr) : Prop where
  ok : okPs 900 ps
  la : ∀ r ∈ rgl ps, laRg r
theorem sh_ok {ps : List Pr} {a b : Rat} (g : GoodR ps) (ha : Lp a) (hb : Lp b) : Pm (shQ ps a b) := by
  unfold shQ
  split
  · refine ⟨1, by decide, by decide, ?_⟩
    split
    · exact ((Lat.int (i := 1) (M := 1) (by decide)).up (D3 * 1) (2 ^ 690) (by decide) |> fun h => by rw [Nat.one_mul] at h; exact h)
    · exact lat0
  · rename_i hne
    obtain ⟨k, k0, k1, k2⟩ := inv_lat (hb.sub ha) (sub_ne hne) (by decide)
    have hl := len_lat ha.la hb.la (rs := rgl ps) (by unfold rgl; rw [List.length_map]; exact g.ok.1) g.la (rgl ps).length
    rw [List.take_length] at hl
    have := (hl.mul k2).up (D0 * D0) (2 ^ 690) (by decide)
    refine ⟨k, k0, Nat.lt_of_le_of_lt k1 (by decide), ?_⟩
    rw [show lenQ (rgl ps) a b / (b - a) = lenQ (rgl ps) a b * (1 / (b - a)) by grind, show D3 * k = D0 * k * (D0 * D0) by unfold D3; grind]
    exact this
def R_share (CR CS : Addr) (as : List AV) (r : AV) : Prop := ∃ (ps : List Pr) (qs : List Pt), as = [.ins CR (rgsF ps), .ins CS (rowsF qs)] ∧ (GoodR ps ∧ GoodPs qs) ∧ r = dn (shareQ ps qs)
abbrev sShare : Stmt := top 63
theorem scShare : FnScope ["ranges", "spread", "total", "count", "low", "high", "part"] ["ranges", "spread"] (defScope sShare) := ⟨rfl, rfl, rfl, by decide +kernel, rfl, by decide +kernel, by decide +kernel⟩
theorem c_share {f : Addr} {fd : FuncData} (D : DefAt K mg "share" sShare ["ranges", "spread"] f fd) (Cn : Consts K mg) (G : SpCls K CS) (C1 : Cal P w K mg base "length_within" 5 (spP K (R_len CR))) (C2 : Cal P w K mg base "plus" 3 (spP K (R_num2 (· + ·)))) (C3 : Cal P w K mg base "quotient" 3 (spP K R_quot)) (C4 : Cal P w K mg base "product" 3 (spP K (R_num2 (· * ·)))) (C5 : MCal P w K mg base CS "households" 1 (spP K (R_hous CS))) (C6 : Cal P w K mg base "minus" 4 (spP K (R_num2 (· - ·)))) (C7 : MCal P w K mg base CR "__contains__" 4 (spP K (R_in CR))) : Cal P w K mg base "share" 6 (spP K (R_share CR CS)) := by
  refine D.cal (pure_ok D.F scShare (fun as a h => ?_) fun as a h cdv A outer s H Ex hr => ?_)
  · obtain ⟨ns, ps, rfl, _⟩ := h
    rfl
  · obtain ⟨ps, qs, rfl, ⟨g, gp⟩, rfl⟩ := h
    have htot := pm_tot (xs := qs) (f := fun p => shQ ps p.l p.h) (c := Pt.c) gp.l8 fun p hp => ⟨sh_ok g (gp.ok p hp).ll (gp.ok p hp).hh, (gp.ok p hp).cabs⟩
    have htl := htot qs.length
    rw [List.take_length] at htl
    refine .inl ⟨_, _, ss_cons (s_setP (a := dn 0) 2 scShare.nd (e_gc Cn.zero))
      (ss_cons (s_forT (js := [3, 4, 5]) (ds := qs.map ptD) (st := fun i => [some (.ins CR (rgsF ps)), some (.ins CS (rowsF qs)), some (dn ((qs.take i).foldl (fun t p => t + (p.c : Rat) * shQ ps p.l p.h) 0)), none, none, none, none]) (δd := fun i d => [some (.ins CR (rgsF ps)), some (.ins CS (rowsF qs)), some (dn ((qs.take i).foldl (fun t p => t + (p.c : Rat) * shQ ps p.l p.h) 0)), some (.dat (tat d 0)), some (.dat (tat d 1)), some (.dat (tat d 2)), none])
        (e_fld (e_nm 1 rfl) G.c G.n rfl) rfl rfl ⟨rfl, rfl, rfl, trivial⟩ rfl (pg_tup (n := 3) rfl (pgs_cons (pg_name (i := 3) scShare.nd rfl (.inl rfl)) (pgs_cons (pg_name (i := 4) scShare.nd rfl (.inl rfl)) (pgs_cons (pg_name (i := 5) scShare.nd rfl (.inl rfl)) pgs_nil)))) (fun i d hi => ?_) (fun i d hi => rfl) fun i d hi => ?_)
      (ss_one (s_ret (e_call C3 (hr.mono (by decide)) (a_cons (e_nm 2 rfl) (a_cons (e_tup (ds := [.int (housQ qs), .int 1]) (a_cons (e_meth0 C5 (hr.mono (by decide)) (e_nm 1 rfl) rfl ⟨qs, rfl, gp, rfl⟩) (a_cons e_int a_nil)) rfl) a_nil)) rfl ⟨shTot ps qs, (housQ qs : Rat), by rw [List.length_map, List.take_length]; rfl, ⟨htl.sm (by decide) (by decide), dv_hous gp⟩, rfl⟩)))), .dat rfl, trivial⟩
    · obtain ⟨p, hip, rfl⟩ := map_at hi
      exact tgx_tup (js := [3, 4, 5]) (ds := [.int p.c, num p.l, num p.h]) ⟨rfl, rfl, rfl, trivial⟩ rfl
    · obtain ⟨p, hip, rfl⟩ := map_at hi
      have hp := gp.ok p (List.mem_of_getElem? hip)
      have hnext : (qs.take (i + 1)).foldl (fun t p => t + (p.c : Rat) * shQ ps p.l p.h) 0 = (qs.take i).foldl (fun t p => t + (p.c : Rat) * shQ ps p.l p.h) 0 + (p.c : Rat) * shQ ps p.l p.h := foldl_take hip
      have ht := htot i
      have hpm := sh_ok g hp.ll hp.hh
      have hcb : Bd 5 1 (p.c : Rat) := int_bd (by have := hp.cabs; omega)
      have hla := hp.ll.la
      have hlb := hp.hh.la
      have bsub : Bd 80 30 (p.h - p.l) := (hp.hh.sub hp.ll).bd (by decide) (by decide) (by decide)
      rw [hnext]
      generalize (qs.take i).foldl (fun t p => t + (p.c : Rat) * shQ ps p.l p.h) 0 = tot at *
      refine ss_cons (δ1 := [some (.ins CR (rgsF ps)), some (.ins CS (rowsF qs)), some (dn tot), some (di p.c), some (dn p.l), some (dn p.h), some (dn (shQ ps p.l p.h))]) ?_ (ss_one (S.is (s_le (δ2 := [some (.ins CR (rgsF ps)), some (.ins CS (rowsF qs)), some (dn (tot + (p.c : Rat) * shQ ps p.l p.h)), none, none, none, none]) (s_setP (a := dn (tot + (p.c : Rat) * shQ ps p.l p.h)) 2 scShare.nd (e_call C2 (hr.mono (by decide)) (a_cons (e_nm 2 rfl) (a_cons (e_call C4 (hr.mono (by decide)) (a_cons (e_tup (ds := [.int p.c, .int 1]) (a_cons (e_nm 3 rfl) (a_cons e_int a_nil)) rfl) (a_cons (e_nm 6 rfl) a_nil)) rfl ⟨(p.c : Rat), shQ ps p.l p.h, rfl, ⟨hcb.sm (by decide) (by decide), hpm.sm.sm (by decide) (by decide)⟩, rfl⟩) a_nil)) rfl ⟨tot, _, rfl, ⟨ht.sm (by decide) (by decide), (hcb.mul hpm.sm).sm (by decide) (by decide)⟩, rfl⟩)) ⟨rfl, rfl, rfl, trivial⟩) rfl))
      by_cases hc : p.l = p.h
      · have e : shQ ps p.l p.h = if ps.any (inRg p.l) = true then 1 else 0 := by
          unfold shQ
          rw [if_pos hc]
        rw [e]
        exact s_ifT (T.cast (t_eqN hr.units (p := p.l) (q := p.h) (e_nm 4 rfl) (e_nm 5 rfl)) (decide_eq_true hc)) (ss_one (s_setP (a := dn (if ps.any (inRg p.l) = true then 1 else 0)) 6 scShare.nd (e_if (t_inO C7 (hr.mono (by decide)) (e_nm 4 rfl) (e_nm 0 rfl) rfl ⟨ps, p.l, rfl, ⟨lsm hla, g.ok.mono (by decide)⟩, rfl⟩) (fun h => E.cast (e_gc Cn.one) (by rw [if_pos h])) (fun h => E.cast (e_gc Cn.zero) (by rw [if_neg (by rw [h]; exact Bool.false_ne_true)]))))) pss_no
      · have e : shQ ps p.l p.h = lenQ (rgl ps) p.l p.h / (p.h - p.l) := by
          unfold shQ
          rw [if_neg hc]
        have hl := len_lat hla hlb (rs := rgl ps) (by unfold rgl; rw [List.length_map]; exact g.ok.1) g.la (rgl ps).length
        rw [List.take_length] at hl
        rw [e]
        exact s_ifF (T.cast (t_eqN hr.units (p := p.l) (q := p.h) (e_nm 4 rfl) (e_nm 5 rfl)) (decide_eq_false hc)) pss_no (ss_one (s_setP (a := dn (lenQ (rgl ps) p.l p.h / (p.h - p.l))) 6 scShare.nd (e_call C3 (hr.mono (by decide)) (a_cons (e_call C1 hr (a_cons (e_nm 0 rfl) (a_cons (e_nm 4 rfl) (a_cons (e_nm 5 rfl) a_nil))) rfl ⟨ps, p.l, p.h, rfl, ⟨g.ok.1, g.la, hla, hlb⟩, rfl⟩) (a_cons (e_call C6 (hr.mono (by decide)) (a_cons (e_nm 5 rfl) (a_cons (e_nm 4 rfl) a_nil)) rfl ⟨p.h, p.l, rfl, ⟨lsm hlb, lsm hla⟩, rfl⟩) a_nil)) rfl
          ⟨lenQ (rgl ps) p.l p.h, p.h - p.l, rfl, ⟨(len_bd hl).sm (by decide) (by decide), sub_ne hc, bsub.sm (by decide) (by decide), Nat.lt_of_lt_of_le bsub.1 (pow_le (by decide))⟩, rfl⟩)))
end
end G
end EX14
section EX15
set_option Elab.async false
set_option linter.all false
set_option maxRecDepth 100000
set_option maxHeartbeats 4000000
set_option exponentiation.threshold 500000
namespace G
open PySem PySem.Spec PyProof.Rows L2
/-! ### the feed -/
abbrev Fd := Int × Int
def feD (f : Fd) : List PyData := [.int f.1, .int f.2]
def okF (f : Fd) : Prop := 0 ≤ f.1 ∧ 0 ≤ f.2 ∧ f.2 < 2 ^ 33
def stepS (s : Int) : Int := (s * 69069 + 12345) % 4294967311
def takeV (f : Fd) (n : Int) : Int := if 0 < f.1 then f.1 % n else stepS f.2 / 65536 % n
def takeF (f : Fd) (n : Int) : Fd := if 0 < f.1 then (f.1 / n, f.2) else (f.1, stepS f.2)
theorem stepS_ok {s : Int} : 0 ≤ stepS s ∧ stepS s < 2 ^ 33 := by
  unfold stepS
  omega
theorem takeV_ok {f : Fd} {n : Int} (h : okF f) (hn : 0 < n) : 0 ≤ takeV f n ∧ takeV f n < n := by
  unfold takeV
  split
  · exact ⟨Int.emod_nonneg _ (by omega), Int.emod_lt_of_pos _ hn⟩
  · exact ⟨Int.emod_nonneg _ (by omega), Int.emod_lt_of_pos _ hn⟩
theorem takeF_ok {f : Fd} {n : Int} (h : okF f) (hn : 0 < n) : okF (takeF f n) := by
  unfold takeF
  split
  · exact ⟨Int.ediv_nonneg h.1 (by omega), h.2⟩
  · exact ⟨h.1, stepS_ok.1, stepS_ok.2⟩
def seedQ (ns : List Int) (k : Nat) : Int := (ns[k]?).getD (71 * k + 23)
def feedQ (ns : List Int) (k : Nat) : Fd := (if (seedQ ns k).natAbs - (10 ^ 18 : Int) > 0 then (seedQ ns k).natAbs - (10 ^ 18 : Int) else 0, ((seedQ ns k).natAbs % 1000003 * 7919 + 31 * k + 17) % 1000033)
theorem feedQ_ok (ns : List Int) (k : Nat) : okF (feedQ ns k) := by
  unfold feedQ okF
  refine ⟨?_, ?_, ?_⟩
  · simp only
    split <;> omega
  · simp only
    omega
  · simp only
    omega
def pickV {α : Type} (L : List α) (df : α) (f : Fd) : α := L.getD (takeV f L.length).toNat df
section
variable {P : Program} {w : World} {K : PySem.W.Frag} {mg : Str → Option Value} {base : Heap} {C CS CR : Addr}
def R_feed (as : List AV) (a : AV) : Prop := ∃ (ns : List Int) (k : Nat), as = [.dat (.list (ns.map .int)), di k] ∧ (ns.length ≤ 63 ∧ k ≤ 5) ∧ a = .lst none (feD (feedQ ns k))
abbrev sFeed : Stmt := top 65
theorem scFeed : FnScope ["_law_script", "_law_k", "_law_seed", "_law_digits"] ["_law_script", "_law_k"] (defScope sFeed) := ⟨rfl, rfl, rfl, by decide +kernel, rfl, by decide +kernel, by decide +kernel⟩
theorem cut_one {ds : List PyData} {k : Nat} : cutD ds (some (k : Int)) (some ((k : Int) + 1)) = (ds[k]?).toList := by
  unfold cutD
  rw [HT.sIx_nat, show ((k : Int) + 1) = ((k + 1 : Nat) : Int) from rfl, HT.sIx_nat]
  by_cases h : k < ds.length
  · rw [Nat.min_eq_left (by omega), Nat.min_eq_left (by omega), Nat.add_sub_cancel_left, List.getElem?_eq_getElem h, List.drop_eq_getElem_cons h]
    rfl
  · rw [List.getElem?_eq_none (by omega), List.drop_eq_nil_of_le (by omega), List.take_nil]
    rfl
theorem c_feed {f : Addr} {fd : FuncData} (D : DefAt K mg "_law_feed" sFeed ["_law_script", "_law_k"] f fd) (N : NoG mg) : Cal P w K mg base "_law_feed" 1 (spP K R_feed) := by
  refine D.cal (pure_ok D.F scFeed (fun as a h => ?_) fun as a h cdv A outer s H Ex hr => ?_)
  · obtain ⟨ns, k, rfl, _⟩ := h
    rfl
  · obtain ⟨ns, k, rfl, ⟨hl, hk⟩, rfl⟩ := h
    have hno : noLs (ns.map PyData.int) = true := noLs_map (fun _ => rfl) _
    have hm : ((seedQ ns k).natAbs : Int) % 1000003 < 2 ^ 20 := by omega
    have hm0 : 0 ≤ ((seedQ ns k).natAbs : Int) % 1000003 := by omega
    refine .inl ⟨_, _, ss_cons (s_setP (a := di (seedQ ns k)) 2 scFeed.nd (e_ixL (e_cat (ds := ((ns.map PyData.int)[k]?).toList) (es' := [.int (71 * k + 23)]) (e_listL (ds := ((ns.map PyData.int)[k]?).toList) (E.cast (e_slL (e_nm 0 rfl) (o_some (e_nm 1 rfl)) (o_some (e_add (e_nm 1 rfl) e_int)) rfl hno) (a' := .lst none ((ns.map PyData.int)[k]?).toList) (by rw [cut_one])) N.list ?_ rfl) (e_list (a_cons (e_add (e_mul e_int (e_nm 1 rfl) ?_) e_int) a_nil) rfl) ?_ rfl rfl rfl rfl) e_int ?_))
      (ss_cons (s_setP (a := di (feedQ ns k).1) 3 scFeed.nd (e_max2 rfl (a_cons e_int (a_cons (e_sub (e_abs (e_nm 2 rfl) N.abs) (e_pow e_int e_int ⟨by decide, by decide, by decide⟩)) a_nil)) N.max))
      (ss_one (s_ret (e_list (a_cons (e_nm 3 rfl) (a_cons (e_mod (e_int1 (e_add (e_add (e_mul (e_mod (e_int1 (e_abs (e_nm 2 rfl) N.abs) N.int) e_int (by decide)) e_int ?_) (e_mul e_int (e_nm 1 rfl) ?_)) e_int) N.int) e_int (by decide)) a_nil)) rfl)))), .lst, trivial⟩
    · refine noLs_of fun d hd => noLs_mem hno ?_
      rw [Option.mem_toList] at hd
      exact List.mem_of_getElem? hd
    · exact wide_mul (a := 8) (b := 8) (by decide) (by omega) (by decide) (by decide) (by decide)
    · have : ((ns.map PyData.int)[k]?).toList.length ≤ 1 := by cases (ns.map PyData.int)[k]? <;> simp
      show _ + 1 ≤ _
      omega
    · show atI (((ns.map PyData.int)[k]?).toList ++ [.int (71 * k + 23)]) ((0 : Nat) : Int) = _
      rw [atI_nat (by simp), List.getElem?_map]
      unfold seedQ
      cases ns[k]? <;> rfl
    · exact wide_mul (a := 30) (b := 30) (by omega) (by decide) (by decide) (by decide) (by decide)
    · exact wide_mul (a := 8) (b := 8) (by decide) (by omega) (by decide) (by decide) (by decide)
def R_take (fe : List PyData) (as : List AV) (a : AV) (fe' : List PyData) : Prop := ∃ (f : Fd) (n : Int), fe = feD f ∧ as = [di n] ∧ (okF f ∧ 0 < n ∧ n < 1000) ∧ a = di (takeV f n) ∧ fe' = feD (takeF f n)
abbrev sTake : Stmt := top 66
theorem scTake : FnScope ["_law_feed_here", "_law_size", "_law_digit"] ["_law_feed_here", "_law_size"] (defScope sTake) := ⟨rfl, rfl, rfl, by decide +kernel, rfl, by decide +kernel, by decide +kernel⟩
theorem c_take {f : Addr} {fd : FuncData} (D : DefAt K mg "_law_take" sTake ["_law_feed_here", "_law_size"] f fd) (N : NoG mg) : Cal P w K mg base "_law_take" 1 (spF K R_take) := by
  refine D.cal (feed_ok D.F scTake (fun fe as a fe' h => ?_) fun fe as a fe' h p0 cdv A outer s H Ex hr => ?_)
  · obtain ⟨f, n, rfl, rfl, _⟩ := h
    rfl
  · obtain ⟨f, n, rfl, rfl, ⟨hf, hn, hn2⟩, rfl, rfl⟩ := h
    have hdw : CDivW f.1 n := wide_div (b := 10) hn (by omega) (by decide) (by decide)
    by_cases hc : 0 < f.1
    · have e1 : takeV f n = f.1 % n := by
        unfold takeV
        rw [if_pos hc]
      have e2 : takeF f n = (f.1 / n, f.2) := by
        unfold takeF
        rw [if_pos hc]
      rw [e1, e2]
      exact .inl ⟨_, _, ss_ret (s_ifT (T.cast (t_gt (e_ixL (d := .int f.1) (e_nm 0 rfl) e_int rfl) e_int) (decide_eq_true hc)) (ss_cons (s_setP (a := di (f.1 % n)) 2 scTake.nd (e_mod (e_int1 (e_ixL (d := .int f.1) (e_nm 0 rfl) e_int rfl) N.int) (e_nm 1 rfl) hn))
        (ss_cons (s_setL 0 (e_div (e_ixL (d := .int f.1) (e_nm 0 rfl) e_int rfl) (e_nm 1 rfl) hdw) rfl rfl rfl rfl e_int rfl) (ss_one (s_ret (e_nm 2 rfl))))) pss_no), .dat rfl, rfl⟩
    · have e1 : takeV f n = stepS f.2 / 65536 % n := by
        unfold takeV
        rw [if_neg hc]
      have e2 : takeF f n = (f.1, stepS f.2) := by
        unfold takeF
        rw [if_neg hc]
      rw [e1, e2]
      exact .inl ⟨_, _, ss_cons (s_ifF (T.cast (t_gt (e_ixL (d := .int f.1) (e_nm 0 rfl) e_int rfl) e_int) (decide_eq_false hc)) pss_no ss_nil)
        (ss_cons (s_setL 0 (e_mod (e_int1 (e_add (e_mul (e_ixL (d := .int f.2) (e_nm 0 rfl) e_int rfl) e_int (wide_mul (a := 33) (b := 30) (by have := hf.2.1; have := hf.2.2; omega) (by decide) (by decide) (by decide) (by decide))) e_int) N.int) e_int (by decide)) rfl rfl rfl rfl e_int rfl)
        (ss_one (s_ret (e_mod (e_int1 (e_div (e_ixL (d := .int (stepS f.2)) (e_nm 0 rfl) e_int rfl) e_int (wide_div (b := 20) (by decide) (by decide) (by decide) (by decide))) N.int) (e_nm 1 rfl) hn)))), .dat rfl, rfl⟩
def R_pick (fe : List PyData) (as : List AV) (a : AV) (fe' : List PyData) : Prop := ∃ (f : Fd) (ds : List PyData) (d : PyData), fe = feD f ∧ as = [.dat (.list ds)] ∧ (okF f ∧ 0 < ds.length ∧ ds.length < 1000 ∧ noL d = true ∧ ds[(takeV f ds.length).toNat]? = some d) ∧ a = .dat d ∧ fe' = feD (takeF f ds.length)
abbrev sPick : Stmt := top 67
theorem scPick : FnScope ["_law_feed_here", "_law_choices"] ["_law_feed_here", "_law_choices"] (defScope sPick) := ⟨rfl, rfl, rfl, by decide +kernel, rfl, by decide +kernel, by decide +kernel⟩
theorem c_pick {f : Addr} {fd : FuncData} (D : DefAt K mg "_law_pick" sPick ["_law_feed_here", "_law_choices"] f fd) (N : NoG mg) (C1 : Cal P w K mg base "_law_take" 1 (spF K R_take)) : Cal P w K mg base "_law_pick" 2 (spF K R_pick) := by
  refine D.cal (feed_ok D.F scPick (fun fe as a fe' h => ?_) fun fe as a fe' h p0 cdv A outer s H Ex hr => ?_)
  · obtain ⟨f, ds, d, rfl, rfl, _⟩ := h
    rfl
  · obtain ⟨f, ds, d, rfl, rfl, ⟨hf, h0, h1, hno, hd⟩, rfl, rfl⟩ := h
    have hv := takeV_ok (n := (ds.length : Int)) hf (by omega)
    exact .inl ⟨_, _, ss_one (s_ret (e_ixL (d := d) (e_nm 1 rfl) (e_callF C1 hr (a_cons (e_nm 0 rfl) (a_cons (e_len (e_nm 1 rfl) rfl N.len) a_nil)) rfl rfl rfl ⟨f, ds.length, rfl, rfl, ⟨hf, by omega, by omega⟩, rfl, rfl⟩) (by
      show atI ds (takeV f ds.length) = some d
      have e : takeV f ds.length = ((takeV f ds.length).toNat : Int) := by omega
      rw [e, atI_nat (by omega)]
      exact hd))), .dat hno, rfl⟩
theorem R_pick_of {α : Type} {L : List α} {df : α} {g : α → PyData} {f : Fd} (hf : okF f) (h0 : 0 < L.length) (h1 : L.length < 1000) (hg : ∀ x, noL (g x) = true) : R_pick (feD f) [.dat (.list (L.map g))] (.dat (g (pickV L df f))) (feD (takeF f L.length)) := by
  have hv := takeV_ok (n := (L.length : Int)) hf (by omega)
  refine ⟨f, L.map g, _, rfl, rfl, ⟨hf, by rw [List.length_map]; exact h0, by rw [List.length_map]; exact h1, hg _, ?_⟩, rfl, by rw [List.length_map]⟩
  rw [List.length_map, List.getElem?_map]
  unfold pickV
  rw [List.getD_eq_getElem?_getD, List.getElem?_eq_getElem (by omega)]
  rfl
theorem pickV_mem {α : Type} {L : List α} {df : α} {f : Fd} (hf : okF f) (h0 : 0 < L.length) : pickV L df f ∈ L := by
  have hv := takeV_ok (n := (L.length : Int)) hf (by omega)
  unfold pickV
  rw [List.getD_eq_getElem?_getD, List.getElem?_eq_getElem (by omega)]
  exact List.getElem_mem _
/-! ### numbers of the law -/
def R_ldiv (as : List AV) (a : AV) : Prop := ∃ x y : Int, as = [di x, di y] ∧ (x.natAbs < 2 ^ 400000 ∧ y.natAbs < 2 ^ 8900) ∧ a = di (Int.gcd x y)
abbrev sLdiv : Stmt := top 68
theorem scLdiv : FnScope ["_law_first", "_law_second"] ["_law_first", "_law_second"] (defScope sLdiv) := ⟨rfl, rfl, rfl, by decide +kernel, rfl, by decide +kernel, by decide +kernel⟩
theorem c_ldiv {f : Addr} {fd : FuncData} (D : DefAt K mg "_law_divisor" sLdiv ["_law_first", "_law_second"] f fd) (N : NoG mg) : Cal P w K mg base "_law_divisor" 1 (spP K R_ldiv) := by
  refine D.cal (pure_ok D.F scLdiv (fun as a h => ?_) fun as a h cdv A outer s H Ex hr => ?_)
  · obtain ⟨x, y, rfl, _⟩ := h
    rfl
  · obtain ⟨x, y, rfl, ⟨hx, hy⟩, rfl⟩ := h
    refine .inl ⟨_, _, ss_cons (s_par 0 1 scLdiv.nd (a_cons (e_abs (e_nm 0 rfl) N.abs) (a_cons (e_abs (e_nm 1 rfl) N.abs) a_nil)))
      (ss_cons (s_while (δ' := [some (di (Int.gcd x y)), some (di 0)]) (fun z : Nat × Nat => [some (di z.1), some (di z.2)]) (fun z => Nat.gcd z.1 z.2 = Int.gcd x y ∧ z.1 < 2 ^ 400000 ∧ z.2 < 2 ^ 8900) (fun z => z.2) (fun z => decide ((0 : Int) < z.2)) (x.natAbs, y.natAbs) ⟨rfl, hx, hy⟩ (Le.refl _) ?_ ?_ ?_)
      (ss_one (s_ret (e_nm 0 rfl)))), .dat rfl, trivial⟩
    · intro z hz
      exact t_gt (e_nm 1 rfl) e_int
    · intro z hz hb
      have hz2 : 0 < z.2 := by simpa using hb
      have hq : ((z.1 : Int).fdiv z.2) = ((z.1 / z.2 : Nat) : Int) := by rw [Int.fdiv_eq_ediv_of_nonneg _ (by omega)]; rfl
      refine ⟨(z.2, z.1 % z.2), ?_, Nat.mod_lt _ hz2, ss_one (S.is (s_par 0 1 scLdiv.nd (a_cons (e_nm 1 rfl) (a_cons (E.cast (e_sub (e_nm 0 rfl) (e_mul (e_fdiv (e_nm 0 rfl) (e_nm 1 rfl) (by omega) (Nat.lt_of_lt_of_le hz.2.2 (pow_le (by decide)))) (e_nm 1 rfl) ?_)) (a' := di ((z.1 % z.2 : Nat) : Int)) ?_) a_nil))) ?_)⟩
      · refine ⟨?_, Nat.lt_of_lt_of_le hz.2.2 (pow_le (by decide)), Nat.lt_of_lt_of_le (Nat.mod_lt _ hz2) (Nat.le_of_lt hz.2.2)⟩
        show Nat.gcd z.2 (z.1 % z.2) = _
        rw [← hz.1, Nat.gcd_comm z.1 z.2, Nat.gcd_comm, ← Nat.gcd_rec]
      · rw [hq]
        exact wide_mul (a := 400000) (b := 8900) (by rw [Int.natAbs_natCast]; exact Nat.lt_of_le_of_lt (Nat.div_le_self _ _) hz.2.1) (by rw [Int.natAbs_natCast]; exact hz.2.2) (by decide) (by decide) (by decide)
      · rw [hq]
        have := Nat.div_add_mod z.1 z.2
        have e : ((z.1 / z.2 : Nat) : Int) * (z.2 : Int) = ((z.2 * (z.1 / z.2) : Nat) : Int) := by rw [Int.natCast_mul, Int.mul_comm]
        rw [e, show (z.1 : Int) - ((z.2 * (z.1 / z.2) : Nat) : Int) = ((z.1 % z.2 : Nat) : Int) by omega]
      · rfl
    · intro z hz hb
      have hz2 : z.2 = 0 := by
        have : ¬ (0 : Int) < z.2 := by simpa using hb
        omega
      have hz := hz.1
      rw [hz2] at hz ⊢
      rw [Nat.gcd_zero_right] at hz
      rw [hz]
      exact Le.refl _
def R_lnum (as : List AV) (a : AV) : Prop := ∃ t b : Int, as = [di t, di b] ∧ (b ≠ 0 ∧ t.natAbs < 2 ^ 400000 ∧ b.natAbs < 2 ^ 8900) ∧ a = dn (Rat.divInt t b)
abbrev sLnum : Stmt := top 69
theorem scLnum : FnScope ["_law_top", "_law_bottom", "_law_divisor_here"] ["_law_top", "_law_bottom"] (defScope sLnum) := ⟨rfl, rfl, rfl, by decide +kernel, rfl, by decide +kernel, by decide +kernel⟩
theorem c_lnum {f : Addr} {fd : FuncData} (D : DefAt K mg "_law_number" sLnum ["_law_top", "_law_bottom"] f fd) (C1 : Cal P w K mg base "_law_divisor" 1 (spP K R_ldiv)) : Cal P w K mg base "_law_number" 2 (spP K R_lnum) := by
  refine D.cal (pure_ok D.F scLnum (fun as a h => ?_) fun as a h cdv A outer s H Ex hr => ?_)
  · obtain ⟨t, b, rfl, _⟩ := h
    rfl
  · obtain ⟨t, b, rfl, ⟨hb, h1, h2⟩, rfl⟩ := h
    have hbig : (exd t b).natAbs < 2 ^ 9000 := Nat.lt_of_le_of_lt (exd_abs hb) (Nat.lt_of_lt_of_le h2 (pow_le (by decide)))
    refine .inl ⟨_, _, ss_cons (s_setP (a := di (Int.gcd t b)) 2 scLnum.nd (e_call C1 hr (a_cons (e_nm 0 rfl) (a_cons (e_nm 1 rfl) a_nil)) rfl ⟨t, b, rfl, ⟨h1, h2⟩, rfl⟩))
      (ss_cons (s_if (out := .nx [some (di t), some (di b), some (di (exd t b))]) (t_lt (e_nm 1 rfl) e_int) (fun h => ?_) (fun h => ?_))
      (ss_one (s_ret (E.cast (e_tup (a_cons (e_fdiv (e_nm 0 rfl) (e_nm 2 rfl) (exd_ne hb) hbig) (a_cons (e_fdiv (e_nm 1 rfl) (e_nm 2 rfl) (exd_ne hb) hbig) a_nil)) rfl) (a' := dn (Rat.divInt t b)) ?_)))), .dat rfl, trivial⟩
    · have e : exd t b = 0 - (Int.gcd t b : Int) := by
        unfold exd
        rw [if_neg (by have := of_decide_eq_true h; omega)]
        omega
      rw [e]
      exact ss_one (s_setP (a := di (0 - (Int.gcd t b : Int))) 2 scLnum.nd (e_sub e_int (e_nm 2 rfl)))
    · have e : exd t b = (Int.gcd t b : Int) := by
        unfold exd
        rw [if_pos (by have := of_decide_eq_false h; omega)]
      rw [e]
      exact ss_nil
    · rw [exact_num t b hb, exact_den t b hb]
      rfl
theorem nd_big {p q : Rat} (h1 : Sm p) (h2 : Sm q) : (p.num * q.den + q.num * p.den).natAbs < 2 ^ 400000 := by
  refine Nat.lt_of_le_of_lt (Int.natAbs_add_le _ _) ?_
  rw [Int.natAbs_mul, Int.natAbs_mul, natAbs_den, natAbs_den]
  have a := lt_pow_mul h1.1 h2.2
  have b := lt_pow_mul h2.1 h1.2
  have c : (2 : Nat) ^ (200000 + 4000) ≤ 2 ^ 399999 := pow_le (by decide)
  have d : (2 : Nat) ^ 400000 = 2 ^ 399999 + 2 ^ 399999 := by rw [← Nat.two_mul, ← Nat.pow_succ']
  generalize (2 : Nat) ^ (200000 + 4000) = A at *
  generalize (2 : Nat) ^ 399999 = B at *
  omega
theorem dd_big2 {p q : Rat} (h1 : Sm p) (h2 : Sm q) : ((p.den : Int) * q.den).natAbs < 2 ^ 8900 := by
  rw [Int.natAbs_mul, natAbs_den, natAbs_den]
  exact Nat.lt_of_lt_of_le (lt_pow_mul h1.2 h2.2) (pow_le (by decide))
theorem nn_big {p q : Rat} (h1 : Sm p) (h2 : Sm q) : (p.num * q.num).natAbs < 2 ^ 400000 := by
  rw [Int.natAbs_mul]
  exact Nat.lt_of_lt_of_le (lt_pow_mul h1.1 h2.1) (pow_le (by decide))
abbrev sLplus : Stmt := top 70
theorem scLplus : FnScope ["_law_first", "_law_second"] ["_law_first", "_law_second"] (defScope sLplus) := ⟨rfl, rfl, rfl, by decide +kernel, rfl, by decide +kernel, by decide +kernel⟩
theorem c_lplus {f : Addr} {fd : FuncData} (D : DefAt K mg "_law_plus" sLplus ["_law_first", "_law_second"] f fd) (C : Cal P w K mg base "_law_number" 2 (spP K R_lnum)) : Cal P w K mg base "_law_plus" 3 (spP K (R_num2 (· + ·))) := by
  refine D.cal (pure_ok D.F scLplus (fun as a h => ?_) fun as a h cdv A outer s H Ex hr => ?_)
  · obtain ⟨p, q, rfl, _⟩ := h
    rfl
  · obtain ⟨p, q, rfl, ⟨h1, h2⟩, rfl⟩ := h
    exact .inl ⟨_, _, ss_one (s_ret (e_call C hr (a_cons (e_add (e_mul (e_ixT (e_nm 0 rfl) e_int rfl) (e_ixT (e_nm 1 rfl) e_int rfl) (mul_nd h1 h2)) (e_mul (e_ixT (e_nm 1 rfl) e_int rfl) (e_ixT (e_nm 0 rfl) e_int rfl) (mul_nd h2 h1)))
      (a_cons (e_mul (e_ixT (e_nm 0 rfl) e_int rfl) (e_ixT (e_nm 1 rfl) e_int rfl) (mul_dd h1 h2)) a_nil)) rfl ⟨_, _, rfl, ⟨dd_ne p q, nd_big h1 h2, dd_big2 h1 h2⟩, by rw [rat_add]⟩)), .dat rfl, trivial⟩
abbrev sLminus : Stmt := top 71
theorem scLminus : FnScope ["_law_first", "_law_second"] ["_law_first", "_law_second"] (defScope sLminus) := ⟨rfl, rfl, rfl, by decide +kernel, rfl, by decide +kernel, by decide +kernel⟩
theorem c_lminus {f : Addr} {fd : FuncData} (D : DefAt K mg "_law_minus" sLminus ["_law_first", "_law_second"] f fd) (C : Cal P w K mg base "_law_number" 2 (spP K R_lnum)) : Cal P w K mg base "_law_minus" 3 (spP K (R_num2 (· - ·))) := by
  refine D.cal (pure_ok D.F scLminus (fun as a h => ?_) fun as a h cdv A outer s H Ex hr => ?_)
  · obtain ⟨p, q, rfl, _⟩ := h
    rfl
  · obtain ⟨p, q, rfl, ⟨h1, h2⟩, rfl⟩ := h
    have hb := nd_big h1 h2.neg
    rw [Rat.neg_num, Rat.neg_den, Int.neg_mul, ← Int.sub_eq_add_neg] at hb
    exact .inl ⟨_, _, ss_one (s_ret (e_call C hr (a_cons (e_sub (e_mul (e_ixT (e_nm 0 rfl) e_int rfl) (e_ixT (e_nm 1 rfl) e_int rfl) (mul_nd h1 h2)) (e_mul (e_ixT (e_nm 1 rfl) e_int rfl) (e_ixT (e_nm 0 rfl) e_int rfl) (mul_nd h2 h1)))
      (a_cons (e_mul (e_ixT (e_nm 0 rfl) e_int rfl) (e_ixT (e_nm 1 rfl) e_int rfl) (mul_dd h1 h2)) a_nil)) rfl ⟨_, _, rfl, ⟨dd_ne p q, hb, dd_big2 h1 h2⟩, by rw [rat_sub]⟩)), .dat rfl, trivial⟩
abbrev sLby : Stmt := top 72
theorem scLby : FnScope ["_law_first", "_law_second"] ["_law_first", "_law_second"] (defScope sLby) := ⟨rfl, rfl, rfl, by decide +kernel, rfl, by decide +kernel, by decide +kernel⟩
theorem c_lby {f : Addr} {fd : FuncData} (D : DefAt K mg "_law_by" sLby ["_law_first", "_law_second"] f fd) (C : Cal P w K mg base "_law_number" 2 (spP K R_lnum)) : Cal P w K mg base "_law_by" 3 (spP K (R_num2 (· * ·))) := by
  refine D.cal (pure_ok D.F scLby (fun as a h => ?_) fun as a h cdv A outer s H Ex hr => ?_)
  · obtain ⟨p, q, rfl, _⟩ := h
    rfl
  · obtain ⟨p, q, rfl, ⟨h1, h2⟩, rfl⟩ := h
    exact .inl ⟨_, _, ss_one (s_ret (e_call C hr (a_cons (e_mul (e_ixT (e_nm 0 rfl) e_int rfl) (e_ixT (e_nm 1 rfl) e_int rfl) (mul_nn h1 h2))
      (a_cons (e_mul (e_ixT (e_nm 0 rfl) e_int rfl) (e_ixT (e_nm 1 rfl) e_int rfl) (mul_dd h1 h2)) a_nil)) rfl ⟨_, _, rfl, ⟨dd_ne p q, nn_big h1 h2, dd_big2 h1 h2⟩, by rw [rat_mul]⟩)), .dat rfl, trivial⟩
abbrev sLless : Stmt := top 73
theorem scLless : FnScope ["_law_first", "_law_second"] ["_law_first", "_law_second"] (defScope sLless) := ⟨rfl, rfl, rfl, by decide +kernel, rfl, by decide +kernel, by decide +kernel⟩
theorem c_lless {f : Addr} {fd : FuncData} (D : DefAt K mg "_law_less" sLless ["_law_first", "_law_second"] f fd) : Cal P w K mg base "_law_less" 1 (spP K R_less) := by
  refine D.cal (pure_ok D.F scLless (fun as a h => ?_) fun as a h cdv A outer s H Ex hr => ?_)
  · obtain ⟨p, q, rfl, _⟩ := h
    rfl
  · obtain ⟨p, q, rfl, ⟨h1, h2⟩, rfl⟩ := h
    exact .inl ⟨_, _, ss_one (s_ret (E.cast (e_lt (e_mul (e_ixT (e_nm 0 rfl) e_int rfl) (e_ixT (e_nm 1 rfl) e_int rfl) (mul_nd h1 h2)) (e_mul (e_ixT (e_nm 1 rfl) e_int rfl) (e_ixT (e_nm 0 rfl) e_int rfl) (mul_nd h2 h1))) (by rw [lt_num]))), .dat rfl, trivial⟩
def someL (t : Int) : List Int := [0, 0, 1, 2, 3, 5, 8, -1, -4, 10, t]
def someT (f : Fd) : Int := pickV (someL (takeV f 40 - 20)) 0 (takeF f 40)
def someB (f : Fd) : Int := 1 + takeV (takeF (takeF f 40) 11) 3
def someF (f : Fd) : Fd := takeF (takeF (takeF f 40) 11) 3
def someQ (f : Fd) : Rat := Rat.divInt (someT f) (someB f)
theorem someF_ok {f : Fd} (h : okF f) : okF (someF f) := takeF_ok (takeF_ok (takeF_ok h (by decide)) (by decide)) (by decide)
theorem someT_ok {f : Fd} (h : okF f) : -20 ≤ someT f ∧ someT f ≤ 20 := by
  have hm : someT f ∈ someL (takeV f 40 - 20) := pickV_mem (takeF_ok h (by decide)) (by simp [someL])
  have hv := takeV_ok (n := 40) h (by decide)
  unfold someL at hm
  simp only [List.mem_cons, List.not_mem_nil, or_false] at hm
  omega
theorem someB_ok {f : Fd} (h : okF f) : 1 ≤ someB f ∧ someB f ≤ 3 := by
  have hv := takeV_ok (n := 3) (takeF_ok (takeF_ok h (n := 40) (by decide)) (n := 11) (by decide)) (by decide)
  unfold someB
  omega
def R_some (fe : List PyData) (as : List AV) (a : AV) (fe' : List PyData) : Prop := ∃ f : Fd, fe = feD f ∧ as = [] ∧ okF f ∧ a = dn (someQ f) ∧ fe' = feD (someF f)
abbrev sSome : Stmt := top 74
theorem scSome : FnScope ["_law_feed_here", "_law_top"] ["_law_feed_here"] (defScope sSome) := ⟨rfl, rfl, rfl, by decide +kernel, rfl, by decide +kernel, by decide +kernel⟩
theorem c_some {f : Addr} {fd : FuncData} (D : DefAt K mg "_law_some_number" sSome ["_law_feed_here"] f fd) (C1 : Cal P w K mg base "_law_take" 1 (spF K R_take)) (C2 : Cal P w K mg base "_law_pick" 2 (spF K R_pick)) (C3 : Cal P w K mg base "_law_number" 2 (spP K R_lnum)) : Cal P w K mg base "_law_some_number" 3 (spF K R_some) := by
  refine D.cal (feed_ok D.F scSome (fun fe as a fe' h => ?_) fun fe as a fe' h p0 cdv A outer s H Ex hr => ?_)
  · obtain ⟨f, rfl, rfl, _⟩ := h
    rfl
  · obtain ⟨f, rfl, rfl, hf, rfl, rfl⟩ := h
    have hb := someB_ok hf
    have ht := someT_ok hf
    exact .inl ⟨_, _, ss_cons (s_set (a := di (someT f)) 1 scSome.nd (e_callF C2 hr (a_cons (e_nm 0 rfl) (a_cons (e_list (a_cons e_int (a_cons e_int (a_cons e_int (a_cons e_int (a_cons e_int (a_cons e_int (a_cons e_int (a_cons (e_neg e_int) (a_cons (e_neg e_int) (a_cons e_int (a_cons (e_sub (e_callF C1 (hr.mono (by decide)) (a_cons (e_nm 0 rfl) (a_cons e_int a_nil)) rfl rfl rfl ⟨f, 40, rfl, rfl, ⟨hf, by decide, by decide⟩, rfl, rfl⟩) e_int) a_nil))))))))))) rfl) a_nil)) rfl rfl rfl
        (R_pick_of (L := someL (takeV f 40 - 20)) (df := 0) (g := .int) (takeF_ok hf (by decide)) (by simp [someL]) (by simp [someL]) (fun _ => rfl))))
      (ss_one (s_ret (e_call C3 hr (a_cons (e_nm 1 rfl) (a_cons (e_add e_int (e_callF C1 (hr.mono (by decide)) (a_cons (e_nm 0 rfl) (a_cons e_int a_nil)) rfl rfl rfl ⟨takeF (takeF f 40) 11, 3, rfl, rfl, ⟨takeF_ok (takeF_ok hf (by decide)) (by decide), by decide, by decide⟩, rfl, rfl⟩)) a_nil)) rfl ⟨someT f, someB f, rfl, ⟨by omega, Nat.lt_of_lt_of_le (show (someT f).natAbs < 2 ^ 5 by omega) (pow_le (by decide)), Nat.lt_of_lt_of_le (show (someB f).natAbs < 2 ^ 5 by omega) (pow_le (by decide))⟩, rfl⟩))), .dat rfl, rfl⟩
abbrev sLine : Stmt := top 75
theorem scLine : FnScope ["_law_node", "_law_x"] ["_law_node", "_law_x"] (defScope sLine) := ⟨rfl, rfl, rfl, by decide +kernel, rfl, by decide +kernel, by decide +kernel⟩
theorem c_line {f : Addr} {fd : FuncData} (D : DefAt K mg "_law_line" sLine ["_law_node", "_law_x"] f fd) (C1 : Cal P w K mg base "_law_plus" 3 (spP K (R_num2 (· + ·)))) (C2 : Cal P w K mg base "_law_by" 3 (spP K (R_num2 (· * ·)))) (C3 : Cal P w K mg base "_law_minus" 3 (spP K (R_num2 (· - ·)))) : Cal P w K mg base "_law_line" 5 (spP K R_reach) := by
  refine D.cal (pure_ok D.F scLine (fun as a h => ?_) fun as a h cdv A outer s H Ex hr => ?_)
  · obtain ⟨n, q, rfl, _⟩ := h
    rfl
  · obtain ⟨n, q, rfl, ⟨h1, h2, h3, h4, h5, h6⟩, rfl⟩ := h
    exact .inl ⟨_, _, ss_one (s_ret (e_call C1 (hr.mono (by decide)) (a_cons (e_ixT (e_nm 0 rfl) e_int rfl) (a_cons (e_call C2 (hr.mono (by decide)) (a_cons (e_ixT (e_nm 0 rfl) e_int rfl) (a_cons (e_call C3 (hr.mono (by decide)) (a_cons (e_nm 1 rfl) (a_cons (e_ixT (e_nm 0 rfl) e_int rfl) a_nil)) rfl ⟨q, n.x, rfl, ⟨h3, h4⟩, rfl⟩) a_nil)) rfl ⟨n.r, q - n.x, rfl, ⟨h2, h5⟩, rfl⟩) a_nil)) rfl ⟨n.s, n.r * (q - n.x), rfl, ⟨h1, h6⟩, rfl⟩)), .dat rfl, trivial⟩
def R_need (as : List AV) (a : AV) : Prop := ∃ ns : List Nd, as = [.dat (.list (ns.map ndD))] ∧ (ns.length ≤ 60 ∧ ∀ n ∈ ns, La4 n) ∧ a = .lst none ((prune ns).map ndD)
abbrev sNeed : Stmt := top 77
abbrev nNeed : List Str := ["_law_nodes", "_law_found", "_law_node", "_law_line_here"]
theorem scNeed : FnScope nNeed ["_law_nodes"] (defScope sNeed) := ⟨rfl, rfl, rfl, by decide +kernel, rfl, by decide +kernel, by decide +kernel⟩
theorem c_need {f : Addr} {fd : FuncData} (D : DefAt K mg "_law_needed" sNeed ["_law_nodes"] f fd) (C1 : Cal P w K mg base "_law_line" 5 (spP K R_reach)) : Cal P w K mg base "_law_needed" 6 (spP K R_need) := by
  refine D.cal (pure_ok D.F scNeed (fun as a h => ?_) fun as a h cdv A outer s H Ex hr => ?_)
  · obtain ⟨ns, rfl, _⟩ := h
    rfl
  · obtain ⟨ns, rfl, ⟨hlen, hla⟩, rfl⟩ := h
    refine .inl ⟨_, _, ss_cons (s_setP (a := .lst none []) 1 scNeed.nd (e_list a_nil rfl))
      (ss_cons (s_forL (js := [2]) (ds := ns.map ndD) (st := fun i => [some (.dat (.list (ns.map ndD))), some (.lst none ((prune (ns.take i)).map ndD)), none, none]) (δd := fun i d => [some (.dat (.list (ns.map ndD))), some (.lst none ((prune (ns.take i)).map ndD)), some (.dat d), none])
        (e_nm 0 rfl) rfl rfl ⟨rfl, rfl, trivial⟩ rfl (pg_name (i := 2) scNeed.nd rfl (.inl rfl)) (fun i d hi => tgx_name rfl) (fun i d hi => rfl) fun i d hi => ?_)
      (ss_one (s_ret (e_nm 1 rfl)))), .sl (i := 1) (by rw [List.length_map, List.take_length]; rfl), trivial⟩
    obtain ⟨n, hin, rfl⟩ := map_at hi
    have hln := hla n (List.mem_of_getElem? hin)
    have hnext : prune (ns.take (i + 1)) = pruS (prune (ns.take i)) n := foldl_take hin
    have hsub : ∀ x ∈ prune (ns.take i), La4 x := fun x hx => hla x (List.mem_of_mem_take (prune_sub.mem hx))
    have hFl : (prune (ns.take i)).length ≤ 60 := Nat.le_trans prune_sub.length_le (by rw [List.length_take]; omega)
    rw [hnext]
    generalize prune (ns.take i) = F at *
    rcases List.eq_nil_or_concat F with rfl | ⟨G, l, rfl⟩
    · exact ss_cons (s_setP (a := .dat .none) 3 scNeed.nd (e_ifF (T.cast (t_neG hr.units (e_nm 1 rfl) (e_list a_nil rfl) rfl rfl (shp_nil.shaped (by decide)) (shp_nil.shaped (by decide))) rfl) pe_no e_none))
        (ss_one (S.is (s_le (δ2 := [some (.dat (.list (ns.map ndD))), some (.lst none [ndD n]), none, none]) (s_ifT (w_pt (w_orT (T.cast (t_eqG hr.units (e_nm 1 rfl) (e_list a_nil rfl) rfl rfl (shp_nil.shaped (by decide)) (shp_nil.shaped (by decide))) rfl) pw_no)) (ss_one (s_append 1 (e_nm 2 rfl) rfl rfl rfl rfl (by decide))) pss_no) ⟨rfl, rfl, trivial⟩) rfl))
    · rw [List.concat_eq_append] at *
      have hll : La4 l := hsub l (by simp)
      have hne : ((G ++ [l]).map ndD).isEmpty = false := by simp
      have hlast : ∀ {o2 o3 : Option AV}, ixLV [some (.dat (.list (ns.map ndD))), some (.lst none ((G ++ [l]).map ndD)), o2, o3] (.sl 1) (-1) = some (ndD l) := fun {_ _} => by
        show atI ((G ++ [l]).map ndD) (-1) = _
        rw [List.map_append]
        exact atI_last
      refine ss_cons (s_setP (a := dn (reach l n.x)) 3 scNeed.nd (e_ifT (T.cast (t_neG hr.units (e_nm 1 rfl) (e_list a_nil rfl) rfl rfl ((shp_map shp_nd _).shaped (by decide)) (shp_nil.shaped (by decide))) (by rw [eqv_nil, hne]; rfl)) (e_call C1 hr (a_cons (e_ixL (e_nm 1 rfl) (e_neg e_int) hlast) (a_cons (e_ixT (e_nm 2 rfl) e_int rfl) a_nil)) rfl (R_reach_of hll hln.x)) pe_no)) ?_
      by_cases hc : n.v = reach l n.x ∧ n.s = reach l n.x ∧ n.r = l.r
      · rw [pruS_app, if_pos hc]
        exact ss_one (s_le (s_ifF (w_pt (w_orF (T.cast (t_eqG hr.units (e_nm 1 rfl) (e_list a_nil rfl) rfl rfl ((shp_map shp_nd _).shaped (by decide)) (shp_nil.shaped (by decide))) (by rw [eqv_nil, hne])) (w_or1 (T.cast (t_neG (d1 := .tuple [num n.v, num n.s, num n.r]) (d2 := .tuple [num (reach l n.x), num (reach l n.x), num l.r]) hr.units (e_tup (a_cons (e_ixT (e_nm 2 rfl) e_int rfl) (a_cons (e_ixT (e_nm 2 rfl) e_int rfl) (a_cons (e_ixT (e_nm 2 rfl) e_int rfl) a_nil))) rfl) (e_tup (a_cons (e_nm 3 rfl) (a_cons (e_nm 3 rfl) (a_cons (e_ixT (e_ixL (e_nm 1 rfl) (e_neg e_int) hlast) e_int rfl) a_nil))) rfl) rfl rfl (shp3.shaped (by decide)) (shp3.shaped (by decide))) ((congrArg not eqv3).trans (by rw [decide_eq_true hc]; rfl)))))) pss_no ss_nil) ⟨rfl, rfl, trivial⟩)
      · rw [pruS_app, if_neg hc, List.map_append (l₂ := [n])]
        exact ss_one (S.is (s_le (δ2 := [some (.dat (.list (ns.map ndD))), some (.lst none ((G ++ [l]).map ndD ++ [ndD n])), none, none]) (s_ifT (w_pt (w_orF (T.cast (t_eqG hr.units (e_nm 1 rfl) (e_list a_nil rfl) rfl rfl ((shp_map shp_nd _).shaped (by decide)) (shp_nil.shaped (by decide))) (by rw [eqv_nil, hne])) (w_or1 (T.cast (t_neG (d1 := .tuple [num n.v, num n.s, num n.r]) (d2 := .tuple [num (reach l n.x), num (reach l n.x), num l.r]) hr.units (e_tup (a_cons (e_ixT (e_nm 2 rfl) e_int rfl) (a_cons (e_ixT (e_nm 2 rfl) e_int rfl) (a_cons (e_ixT (e_nm 2 rfl) e_int rfl) a_nil))) rfl) (e_tup (a_cons (e_nm 3 rfl) (a_cons (e_nm 3 rfl) (a_cons (e_ixT (e_ixL (e_nm 1 rfl) (e_neg e_int) hlast) e_int rfl) a_nil))) rfl) rfl rfl (shp3.shaped (by decide)) (shp3.shaped (by decide))) ((congrArg not eqv3).trans (by rw [decide_eq_false hc]; rfl)))))) (ss_one (s_append 1 (e_nm 2 rfl) rfl rfl rfl rfl (by rw [List.length_map]; omega))) pss_no) ⟨rfl, rfl, trivial⟩) rfl)
end
end G
end EX15
section EX16
set_option Elab.async false
set_option linter.all false
set_option maxRecDepth 100000
set_option maxHeartbeats 4000000
set_option exponentiation.threshold 500000
namespace G
open PySem PySem.Spec PyProof.Rows L2
/-! ### few -/
def q12 : Rat := ⟨1, 2, by decide, by decide⟩
def q73 : Rat := ⟨7, 3, by decide, by decide⟩
def q52 : Rat := ⟨5, 2, by decide, by decide⟩
def q32 : Rat := ⟨3, 2, by decide, by decide⟩
def q13 : Rat := ⟨1, 3, by decide, by decide⟩
def q34 : Rat := ⟨3, 4, by decide, by decide⟩
def q152 : Rat := ⟨15, 2, by decide, by decide⟩
def bigN : Rat := ((-1000000000000000000000000000000 : Int) : Rat)
def stepL : List Rat := [1, 1, 2, 5, q12, q73]
def slopeL (t : Int) : List Rat := [0, 0, 1, -1, q12, 2, -3, (t : Rat)]
structure FS where
  f : Fd
  x : Rat
  F : List Nd
def fewX (z : FS) : Rat := if z.F = [] then z.x else z.x + pickV stepL 0 z.f
def fewF1 (z : FS) : Fd := if z.F = [] then z.f else takeF z.f 6
def fewF5 (f : Fd) : Fd := takeF (takeF (someF (someF f)) 9) 8
def fewR (f : Fd) : Rat := pickV (slopeL (takeV (someF (someF f)) 9 - 4)) 0 (takeF (someF (someF f)) 9)
def fewF6 (F : List Nd) (f : Fd) : Fd := if F = [] then f else takeF f 3
def fewS (F : List Nd) (x s : Rat) (f : Fd) : Rat := match F.getLast? with
  | none => s
  | some l => if takeV f 3 = 0 then reach l x else s
def fewV (s v : Rat) (f : Fd) : Rat := if takeV (takeF f 2) 40 = 0 then bigN else if takeV f 2 = 0 then s else v
def fewF8 (f : Fd) : Fd := takeF (takeF f 2) 40
def fewNd (z : FS) : Nd :=
  let f1 := fewF1 z
  let s := fewS z.F (fewX z) (someQ (someF f1)) (fewF5 f1)
  ⟨fewX z, fewV s (someQ f1) (fewF6 z.F (fewF5 f1)), s, fewR f1⟩
def fewStep (z : FS) : FS := ⟨fewF8 (fewF6 z.F (fewF5 (fewF1 z))), fewX z, z.F ++ [fewNd z]⟩
def fewI (f : Fd) : Nat → FS
  | 0 => ⟨f, 0, []⟩
  | i + 1 => fewStep (fewI f i)
/-- what holds of the nodes made so far -/
structure FI (i : Nat) (z : FS) : Prop where
  f : okF z.f
  len : z.F.length = i
  x : Lat 6 (10 * i) z.x
  nx : ∀ n ∈ z.F, Lat 6 (10 * i) n.x ∧ Lat 12 (2 ^ 105) n.v ∧ Lat 12 (20 + 2000 * i) n.s ∧ Lat 2 4 n.r ∧ n.x ≤ z.x
  x0 : z.F = [] → z.x = 0
  hd : z.F ≠ [] → ∃ n r, z.F = n :: r ∧ n.x = 0
  pw : z.F.Pairwise fun a b => a.x < b.x
theorem lat_q12 : Lat 2 1 q12 := ⟨1, by decide +kernel, by decide⟩
theorem lat_q73 : Lat 3 3 q73 := ⟨7, by decide +kernel, by decide⟩
theorem stepL_lat {q : Rat} (h : q ∈ stepL) : Lat 6 5 q ∧ 0 < q := by
  unfold stepL at h
  simp only [List.mem_cons, List.not_mem_nil, or_false] at h
  rcases h with rfl | rfl | rfl | rfl | rfl | rfl
  · exact ⟨(Lat.int (i := 1) (M := 1) (by decide)).up 6 5 (by decide), by decide⟩
  · exact ⟨(Lat.int (i := 1) (M := 1) (by decide)).up 6 5 (by decide), by decide⟩
  · exact ⟨(Lat.int (i := 2) (M := 2) (by decide)).up 6 5 (by decide), by decide⟩
  · exact ⟨(Lat.int (i := 5) (M := 5) (by decide)).up 6 5 (by decide), by decide⟩
  · exact ⟨lat_q12.up 3 5 (by decide), by decide⟩
  · exact ⟨lat_q73.up 2 5 (by decide), by decide⟩
theorem slopeL_lat {q : Rat} {t : Int} (ht : t.natAbs ≤ 4) (h : q ∈ slopeL t) : Lat 2 4 q := by
  unfold slopeL at h
  simp only [List.mem_cons, List.not_mem_nil, or_false] at h
  rcases h with rfl | rfl | rfl | rfl | rfl | rfl | rfl | rfl
  · exact lat0
  · exact lat0
  · exact (Lat.int (i := 1) (M := 1) (by decide)).up 2 4 (by decide)
  · exact (Lat.int (i := -1) (M := 1) (by decide)).up 2 4 (by decide)
  · exact lat_q12.mono (by decide)
  · exact (Lat.int (i := 2) (M := 2) (by decide)).up 2 4 (by decide)
  · exact (Lat.int (i := -3) (M := 3) (by decide)).up 2 4 (by decide)
  · exact (Lat.int (M := 4) ht).up 2 4 (by decide)
theorem div_lat {t b : Int} {M : Nat} (c : Nat) (hb : 0 < b) (hc : (c : Int) * b = 6) (h : t.natAbs ≤ M) : Lat 6 M (Rat.divInt t b) := by
  have hbr : (b : Rat) ≠ 0 := fun z => by
    have : b = 0 := Rat.intCast_inj.mp z
    omega
  refine ⟨t * c, ?_, ?_⟩
  · rw [Rat.divInt_eq_div, Rat.intCast_mul, Rat.intCast_natCast]
    have e : ((c : Nat) : Rat) * (b : Rat) = 6 := by
      rw [← Rat.intCast_natCast, ← Rat.intCast_mul, hc]
      rfl
    have e6 : ((6 : Nat) : Rat) = 6 := rfl
    rw [e6, ← e]
    grind
  · rw [Int.natAbs_mul, Int.natAbs_natCast]
    have : c ≤ 6 := by
      have h1 : (c : Int) * 1 ≤ (c : Int) * b := Int.mul_le_mul_of_nonneg_left (by omega) (by omega)
      omega
    exact Nat.mul_le_mul h this
theorem someQ_lat {f : Fd} (h : okF f) : Lat 6 20 (someQ f) := by
  have ht := someT_ok h
  have hb := someB_ok h
  unfold someQ
  have : someB f = 1 ∨ someB f = 2 ∨ someB f = 3 := by omega
  rcases this with e | e | e <;> rw [e]
  · exact div_lat 6 (by decide) (by decide) (by omega)
  · exact div_lat 3 (by decide) (by decide) (by omega)
  · exact div_lat 2 (by decide) (by decide) (by omega)
theorem fewF1_ok {z : FS} (h : okF z.f) : okF (fewF1 z) := by
  unfold fewF1
  split
  · exact h
  · exact takeF_ok h (by decide)
theorem fewF5_ok {f : Fd} (h : okF f) : okF (fewF5 f) := takeF_ok (takeF_ok (someF_ok (someF_ok h)) (by decide)) (by decide)
theorem fewF6_ok {F : List Nd} {f : Fd} (h : okF f) : okF (fewF6 F f) := by
  unfold fewF6
  split
  · exact h
  · exact takeF_ok h (by decide)
theorem fewF8_ok {f : Fd} (h : okF f) : okF (fewF8 f) := takeF_ok (takeF_ok h (by decide)) (by decide)
theorem fewR_lat {f : Fd} (h : okF f) : Lat 2 4 (fewR f) := by
  have hv := takeV_ok (n := 9) (someF_ok (someF_ok h)) (by decide)
  exact slopeL_lat (t := takeV (someF (someF f)) 9 - 4) (by omega) (pickV_mem (takeF_ok (someF_ok (someF_ok h)) (by decide)) (by simp [slopeL]))
theorem reach_lat6 {n : Nd} {x : Rat} {i : Nat} (h1 : Lat 6 (10 * i) n.x) (h2 : Lat 12 (20 + 2000 * i) n.s) (h3 : Lat 2 4 n.r) (hx : Lat 6 (10 * (i + 1)) x) (hi : i ≤ 4) : Lat 12 (20 + 2000 * (i + 1)) (reach n x) := by
  have := h2.add ((h3.mul (hx.sub h1)).mono (N := 500) (by omega))
  exact this.mono (by omega)
theorem fewX_lat {i : Nat} {z : FS} (I : FI i z) : Lat 6 (10 * (i + 1)) (fewX z) ∧ (z.F ≠ [] → z.x < fewX z) ∧ (z.F = [] → fewX z = 0) := by
  unfold fewX
  split
  · rename_i e
    exact ⟨I.x.mono (by omega), fun h => absurd e h, fun _ => I.x0 e⟩
  · rename_i e
    have hm := stepL_lat (pickV_mem (L := stepL) (df := 0) I.f (by decide))
    exact ⟨(I.x.add hm.1).mono (by omega), fun _ => by have := hm.2; grind, fun h => absurd h e⟩
theorem fewS_lat {i : Nat} {z : FS} {s : Rat} {f : Fd} (I : FI i z) (hi : i ≤ 4) (hs : Lat 6 20 s) : Lat 12 (20 + 2000 * (i + 1)) (fewS z.F (fewX z) s f) := by
  unfold fewS
  split
  · exact (hs.up 2 20 (Nat.le_refl _)).mono (by omega)
  · rename_i l hl
    split
    · obtain ⟨h1, h2, h3, h4, _⟩ := I.nx l (List.mem_of_getLast? hl)
      exact reach_lat6 h1 h3 h4 (fewX_lat I).1 hi
    · exact (hs.up 2 20 (Nat.le_refl _)).mono (by omega)
theorem big_lat : Lat 12 (2 ^ 105) bigN := (Lat.int (i := -1000000000000000000000000000000) (M := 2 ^ 105) (by decide)).up 12 (2 ^ 105) (Nat.le_refl _)
theorem fewV_lat {s v : Rat} {f : Fd} (hs : Lat 12 (2 ^ 105) s) (hv : Lat 12 (2 ^ 105) v) : Lat 12 (2 ^ 105) (fewV s v f) := by
  unfold fewV
  split
  · exact big_lat
  · split
    · exact hs
    · exact hv
theorem FI.step {i : Nat} {z : FS} (I : FI i z) (hi : i ≤ 4) : FI (i + 1) (fewStep z) := by
  have hf1 := fewF1_ok I.f
  have hx := fewX_lat I
  have hs := fewS_lat (f := fewF5 (fewF1 z)) I hi (someQ_lat (someF_ok hf1))
  have hbig : 20 + 2000 * (i + 1) ≤ 2 ^ 105 := Nat.le_trans (show 20 + 2000 * (i + 1) ≤ 20 + 2000 * 5 by omega) (by decide)
  refine ⟨fewF8_ok (fewF6_ok (fewF5_ok hf1)), ?_, hx.1, fun n hn => ?_, fun h => ?_, fun _ => ?_, ?_⟩
  · show (z.F ++ [fewNd z]).length = i + 1
    rw [List.length_append, I.len]
    rfl
  · rcases List.mem_append.mp (show n ∈ z.F ++ [fewNd z] from hn) with h | h
    · obtain ⟨h1, h2, h3, h4, h5⟩ := I.nx n h
      refine ⟨h1.mono (by omega), h2, h3.mono (by omega), h4, ?_⟩
      have := hx.2.1 (fun e => by rw [e] at h; simp at h)
      show n.x ≤ fewX z
      grind
    · rw [List.mem_singleton.mp h]
      refine ⟨hx.1, fewV_lat (hs.mono hbig) (((someQ_lat hf1).up 2 20 (Nat.le_refl _)).mono (by decide)), hs, fewR_lat hf1, Rat.le_refl⟩
  · simp [fewStep] at h
  · by_cases e : z.F = []
    · exact ⟨fewNd z, [], by show z.F ++ [fewNd z] = _; rw [e]; rfl, hx.2.2 e⟩
    · obtain ⟨n, r, h1, h2⟩ := I.hd e
      exact ⟨n, r ++ [fewNd z], by show z.F ++ [fewNd z] = _; rw [h1]; rfl, h2⟩
  · show (z.F ++ [fewNd z]).Pairwise _
    rw [List.pairwise_append]
    refine ⟨I.pw, List.pairwise_singleton _ _, fun a ha b hb => ?_⟩
    rw [List.mem_singleton.mp hb]
    have h5 := (I.nx a ha).2.2.2.2
    have := hx.2.1 (fun e => by rw [e] at ha; simp at ha)
    show a.x < fewX z
    grind
theorem fewI_ok {f : Fd} (h : okF f) : ∀ i, i ≤ 5 → FI i (fewI f i)
  | 0, _ => ⟨h, rfl, lat0, fun n hn => by simp [fewI] at hn, fun _ => rfl, fun h => absurd rfl h, List.Pairwise.nil⟩
  | i + 1, hi => (fewI_ok h i (by omega)).step (by omega)
theorem FI.la4 {i : Nat} {z : FS} (I : FI i z) (hi : i ≤ 5) : ∀ n ∈ z.F, La4 n := fun n hn => by
  obtain ⟨h1, h2, h3, h4, _⟩ := I.nx n hn
  exact ⟨h1.up 8648640 M0 (Nat.le_trans (show 10 * i ≤ 50 by omega) (by decide)), h2.up 4324320 M0 (by decide), h3.up 4324320 M0 (Nat.le_trans (show 20 + 2000 * i ≤ 20 + 2000 * 5 by omega) (by decide)), h4.up 25945920 M0 (by decide)⟩
theorem FI.laX {i : Nat} {z : FS} (I : FI i z) (hi : i ≤ 5) : La z.x := I.x.up 8648640 M0 (Nat.le_trans (show 10 * i ≤ 50 by omega) (by decide))
def fewN (f : Fd) (m : Int) : Nat := (1 + takeV f m).toNat
def fewNs (f : Fd) : List Nd := (fewI (takeF f 4) (fewN f 4)).F
def fewFd (f : Fd) : Fd := (fewI (takeF f 4) (fewN f 4)).f
theorem fewN_ok {f : Fd} (h : okF f) : 1 ≤ fewN f 4 ∧ fewN f 4 ≤ 4 ∧ (fewN f 4 : Int) = 1 + takeV f 4 := by
  have := takeV_ok (n := 4) h (by decide)
  unfold fewN
  omega
theorem few_FI {f : Fd} (h : okF f) : FI (fewN f 4) (fewI (takeF f 4) (fewN f 4)) := fewI_ok (takeF_ok h (by decide)) _ (by have := fewN_ok h; omega)
section
variable {P : Program} {w : World} {K : PySem.W.Frag} {mg : Str → Option Value} {base : Heap} {C CS CR : Addr}
def R_few (fe : List PyData) (as : List AV) (a : AV) (fe' : List PyData) : Prop := ∃ f : Fd, fe = feD f ∧ as = [di 4] ∧ okF f ∧ a = .lst none ((prune (fewNs f)).map ndD) ∧ fe' = feD (fewFd f)
abbrev sFew : Stmt := top 79
abbrev nFew : List Str := ["_law_feed_here", "_law_most_here", "_law_x", "_law_found", "_law_turn", "_law_value", "_law_start", "_law_some", "_law_slope"]
theorem scFew : FnScope nFew ["_law_feed_here", "_law_most_here"] (defScope sFew) := ⟨rfl, rfl, rfl, by decide +kernel, rfl, by decide +kernel, by decide +kernel⟩
abbrev fewS4 (p0 : Addr) (f : Fd) (x : Rat) (F : List Nd) (t : Ab) : Ab := some (.lst (some p0) (feD f)) :: some (di 4) :: some (dn x) :: some (.lst none (F.map ndD)) :: t
theorem c_few {f : Addr} {fd : FuncData} (D : DefAt K mg "_law_few" sFew ["_law_feed_here", "_law_most_here"] f fd) (N : NoG mg) (C1 : Cal P w K mg base "_law_take" 1 (spF K R_take)) (C2 : Cal P w K mg base "_law_pick" 2 (spF K R_pick)) (C3 : Cal P w K mg base "_law_some_number" 3 (spF K R_some)) (C4 : Cal P w K mg base "_law_plus" 3 (spP K (R_num2 (· + ·)))) (C5 : Cal P w K mg base "_law_line" 5 (spP K R_reach)) (C6 : Cal P w K mg base "_law_needed" 6 (spP K R_need)) : Cal P w K mg base "_law_few" 7 (spF K R_few) := by
  refine D.cal (feed_ok D.F scFew (fun fe as a fe' h => ?_) fun fe as a fe' h p0 cdv A outer s H Ex hr => ?_)
  · obtain ⟨f, rfl, rfl, _⟩ := h
    rfl
  · obtain ⟨f, rfl, rfl, hf, rfl, rfl⟩ := h
    have hn := fewN_ok hf
    have hFI := few_FI hf
    refine .inl ⟨_, _, ss_cons (s_par 2 3 scFew.nd (a_cons (e_tup (ds := [.int 0, .int 1]) (a_cons e_int (a_cons e_int a_nil)) rfl) (a_cons (e_list a_nil rfl) a_nil)))
      (ss_cons (s_forR (n := fewN f 4) (js := [4]) (st := fun i => fewS4 p0 (fewI (takeF f 4) i).f (fewI (takeF f 4) i).x (fewI (takeF f 4) i).F [none, none, none, none, none]) (δd := fun i => fewS4 p0 (fewI (takeF f 4) i).f (fewI (takeF f 4) i).x (fewI (takeF f 4) i).F [some (di i), none, none, none, none])
        (a_cons (E.cast (e_add e_int (e_callF C1 (hr.mono (by decide)) (a_cons (e_nm 0 rfl) (a_cons (e_nm 1 rfl) a_nil)) rfl rfl rfl ⟨f, 4, rfl, rfl, ⟨hf, by decide, by decide⟩, rfl, rfl⟩)) (by rw [hn.2.2])) a_nil) (by omega) N.range ⟨rfl, rfl, rfl, rfl, trivial⟩ rfl (pg_name (i := 4) scFew.nd rfl (.inl rfl)) (fun i hi => tgx_name rfl) (fun i hi => rfl) fun i hi => ?_)
      (ss_one (s_ret (e_call C6 hr (a_cons (e_nm 3 rfl) a_nil) rfl ⟨fewNs f, rfl, ⟨by have := hFI.len; unfold fewNs; omega, hFI.la4 (by omega)⟩, rfl⟩)))), .lst, rfl⟩
    have I := fewI_ok (takeF_ok hf (n := 4) (by decide)) i (by omega)
    show Ss _ _ _ (.nx (fewS4 p0 (fewStep (fewI (takeF f 4) i)).f (fewStep (fewI (takeF f 4) i)).x (fewStep (fewI (takeF f 4) i)).F [none, none, none, none, none]))
    generalize fewI (takeF f 4) i = z at *
    have hf1 := fewF1_ok I.f
    have hx := fewX_lat I
    have hLx : La (fewX z) := hx.1.up 8648640 M0 (Nat.le_trans (show 10 * (i + 1) ≤ 50 by omega) (by decide))
    have hla := I.la4 (show i ≤ 5 by omega)
    have hf5 := fewF5_ok hf1
    have hf6 := fewF6_ok (F := z.F) hf5
    have hne : z.F ≠ [] → (z.F.map ndD).isEmpty = false := fun h => by
      cases hz : z.F with
      | nil => exact absurd hz h
      | cons a b => rfl
    refine ss_cons (δ1 := fewS4 p0 (fewF1 z) (fewX z) z.F [some (di i), none, none, none, none]) ?_
      (ss_cons (s_par 5 6 scFew.nd (a_cons (e_callF C3 (hr.mono (by decide)) (a_cons (e_nm 0 rfl) a_nil) rfl rfl rfl ⟨fewF1 z, rfl, rfl, hf1, rfl, rfl⟩) (a_cons (e_callF C3 (hr.mono (by decide)) (a_cons (e_nm 0 rfl) a_nil) rfl rfl rfl ⟨someF (fewF1 z), rfl, rfl, someF_ok hf1, rfl, rfl⟩) a_nil)))
      (ss_cons (s_set (a := .lst none ((slopeL (takeV (someF (someF (fewF1 z))) 9 - 4)).map num)) 7 scFew.nd (E.cast (e_list (a_cons (e_tup (a_cons e_int (a_cons e_int a_nil)) rfl) (a_cons (e_tup (a_cons e_int (a_cons e_int a_nil)) rfl) (a_cons (e_tup (a_cons e_int (a_cons e_int a_nil)) rfl) (a_cons (e_tup (a_cons (e_neg e_int) (a_cons e_int a_nil)) rfl) (a_cons (e_tup (a_cons e_int (a_cons e_int a_nil)) rfl) (a_cons (e_tup (a_cons e_int (a_cons e_int a_nil)) rfl) (a_cons (e_tup (a_cons (e_neg e_int) (a_cons e_int a_nil)) rfl)
          (a_cons (e_tup (a_cons (e_sub (e_callF C1 (hr.mono (by decide)) (a_cons (e_nm 0 rfl) (a_cons e_int a_nil)) rfl rfl rfl ⟨someF (someF (fewF1 z)), 9, rfl, rfl, ⟨someF_ok (someF_ok hf1), by decide, by decide⟩, rfl, rfl⟩) e_int) (a_cons e_int a_nil)) rfl) a_nil)))))))) rfl) rfl))
      (ss_cons (s_set (a := dn (fewR (fewF1 z))) 8 scFew.nd (e_callF C2 (hr.mono (by decide)) (a_cons (e_nm 0 rfl) (a_cons (e_nm 7 rfl) a_nil)) rfl rfl rfl (R_pick_of (L := slopeL (takeV (someF (someF (fewF1 z))) 9 - 4)) (df := 0) (g := num) (takeF_ok (someF_ok (someF_ok hf1)) (by decide)) (by simp [slopeL]) (by simp [slopeL]) (fun _ => rfl))))
      (ss_cons (δ1 := fewS4 p0 (fewF6 z.F (fewF5 (fewF1 z))) (fewX z) z.F [some (di i), some (dn (someQ (fewF1 z))), some (dn (fewS z.F (fewX z) (someQ (someF (fewF1 z))) (fewF5 (fewF1 z)))), some (.lst none ((slopeL (takeV (someF (someF (fewF1 z))) 9 - 4)).map num)), some (dn (fewR (fewF1 z)))]) ?_
      (ss_cons (δ1 := fewS4 p0 (takeF (fewF6 z.F (fewF5 (fewF1 z))) 2) (fewX z) z.F [some (di i), some (dn (if takeV (fewF6 z.F (fewF5 (fewF1 z))) 2 = 0 then (fewS z.F (fewX z) (someQ (someF (fewF1 z))) (fewF5 (fewF1 z))) else (someQ (fewF1 z)))), some (dn (fewS z.F (fewX z) (someQ (someF (fewF1 z))) (fewF5 (fewF1 z)))), some (.lst none ((slopeL (takeV (someF (someF (fewF1 z))) 9 - 4)).map num)), some (dn (fewR (fewF1 z)))])
        (s_if (t_eqI (e_callF C1 (hr.mono (by decide)) (a_cons (e_nm 0 rfl) (a_cons e_int a_nil)) rfl rfl rfl ⟨fewF6 z.F (fewF5 (fewF1 z)), 2, rfl, rfl, ⟨hf6, by decide, by decide⟩, rfl, rfl⟩) e_int) (fun h => ?_) (fun h => ?_))
      (ss_cons (δ1 := fewS4 p0 (fewF8 (fewF6 z.F (fewF5 (fewF1 z)))) (fewX z) z.F [some (di i), some (dn (fewNd z).v), some (dn (fewNd z).s), some (.lst none ((slopeL (takeV (someF (someF (fewF1 z))) 9 - 4)).map num)), some (dn (fewR (fewF1 z)))])
        (s_if (t_eqI (e_callF C1 (hr.mono (by decide)) (a_cons (e_nm 0 rfl) (a_cons e_int a_nil)) rfl rfl rfl ⟨takeF (fewF6 z.F (fewF5 (fewF1 z))) 2, 40, rfl, rfl, ⟨takeF_ok hf6 (by decide), by decide, by decide⟩, rfl, rfl⟩) e_int) (fun h => ?_) (fun h => ?_))
      (ss_one (S.is (s_le (δ1 := fewS4 p0 (fewF8 (fewF6 z.F (fewF5 (fewF1 z)))) (fewX z) (z.F ++ [fewNd z]) [some (di i), some (dn (fewNd z).v), some (dn (fewNd z).s), some (.lst none ((slopeL (takeV (someF (someF (fewF1 z))) 9 - 4)).map num)), some (dn (fewR (fewF1 z)))]) (δ2 := fewS4 p0 (fewF8 (fewF6 z.F (fewF5 (fewF1 z)))) (fewX z) (z.F ++ [fewNd z]) [none, none, none, none, none]) ?_ ⟨rfl, rfl, rfl, rfl, trivial⟩) rfl))))))))
    · by_cases e : z.F = []
      · have e1 : fewF1 z = z.f := by
          unfold fewF1
          rw [if_pos e]
        have e2 : fewX z = z.x := by
          unfold fewX
          rw [if_pos e]
        rw [e1, e2, e]
        exact s_ifF (T.cast (t_neG hr.units (e_nm 3 rfl) (e_list a_nil rfl) rfl rfl (shp_nil.shaped (by decide)) (shp_nil.shaped (by decide))) rfl) pss_no ss_nil
      · have e1 : fewF1 z = takeF z.f 6 := by
          unfold fewF1
          rw [if_neg e]
        have e2 : fewX z = z.x + pickV stepL 0 z.f := by
          unfold fewX
          rw [if_neg e]
        have hst := stepL_lat (pickV_mem (L := stepL) (df := 0) I.f (by decide))
        rw [e1, e2]
        exact s_ifT (T.cast (t_neG hr.units (e_nm 3 rfl) (e_list a_nil rfl) rfl rfl ((shp_map shp_nd _).shaped (by decide)) (shp_nil.shaped (by decide))) (by rw [eqv_nil, hne e]; rfl))
          (ss_one (S.is (s_set (a := dn (z.x + pickV stepL 0 z.f)) 2 scFew.nd (e_call C4 (hr.mono (by decide)) (a_cons (e_nm 2 rfl) (a_cons (e_callF C2 (hr.mono (by decide)) (a_cons (e_nm 0 rfl) (a_cons (e_list (a_cons (e_tup (a_cons e_int (a_cons e_int a_nil)) rfl) (a_cons (e_tup (a_cons e_int (a_cons e_int a_nil)) rfl) (a_cons (e_tup (a_cons e_int (a_cons e_int a_nil)) rfl) (a_cons (e_tup (a_cons e_int (a_cons e_int a_nil)) rfl) (a_cons (e_tup (a_cons e_int (a_cons e_int a_nil)) rfl) (a_cons (e_tup (a_cons e_int (a_cons e_int a_nil)) rfl) a_nil)))))) rfl) a_nil)) rfl rfl rfl (R_pick_of (L := stepL) (df := 0) (g := num) I.f (by decide) (by decide) (fun _ => rfl))) a_nil)) rfl ⟨z.x, pickV stepL 0 z.f, rfl, ⟨(I.laX (by omega)).sm, (hst.1.bd (n := 10) (d := 5) (by decide) (by decide) (by decide)).sm (by decide) (by decide)⟩, rfl⟩)) rfl)) pss_no
    · show S _ _ (fewS4 p0 (fewF5 (fewF1 z)) (fewX z) z.F [some (di i), some (dn (someQ (fewF1 z))), some (dn (someQ (someF (fewF1 z)))), some (.lst none ((slopeL (takeV (someF (someF (fewF1 z))) 9 - 4)).map num)), some (dn (fewR (fewF1 z)))]) _
      generalize someQ (someF (fewF1 z)) = s0
      generalize fewF5 (fewF1 z) = f5 at *
      rcases List.eq_nil_or_concat z.F with e | ⟨G, l, e⟩
      · have e1 : fewF6 z.F f5 = f5 := by
          unfold fewF6
          rw [if_pos e]
        have e2 : fewS z.F (fewX z) s0 f5 = s0 := by
          rw [e]
          rfl
        rw [e1, e2, e]
        exact s_ifF (w_pt (w_andF (T.cast (t_neG hr.units (e_nm 3 rfl) (e_list a_nil rfl) rfl rfl (shp_nil.shaped (by decide)) (shp_nil.shaped (by decide))) rfl) pw_no)) pss_no ss_nil
      · rw [List.concat_eq_append] at e
        have ene : z.F ≠ [] := by rw [e]; simp
        have e1 : fewF6 z.F f5 = takeF f5 3 := by
          unfold fewF6
          rw [if_neg ene]
        have e2 : fewS z.F (fewX z) s0 f5 = if takeV f5 3 = 0 then reach l (fewX z) else s0 := by
          rw [e]
          unfold fewS
          simp
        have hll : La4 l := hla l (by rw [e]; simp)
        rw [e1, e2]
        refine s_if (w_pt (w_andT (T.cast (t_neG hr.units (e_nm 3 rfl) (e_list a_nil rfl) rfl rfl ((shp_map shp_nd _).shaped (by decide)) (shp_nil.shaped (by decide))) (by rw [eqv_nil, hne ene]; rfl)) (w_and1 (t_eqI (e_callF C1 (hr.mono (by decide)) (a_cons (e_nm 0 rfl) (a_cons e_int a_nil)) rfl rfl rfl ⟨f5, 3, rfl, rfl, ⟨hf5, by decide, by decide⟩, rfl, rfl⟩) e_int)))) (fun h => ?_) (fun h => ?_)
        · rw [if_pos (of_decide_eq_true h)]
          exact ss_one (s_setP (a := dn (reach l (fewX z))) 6 scFew.nd (e_call C5 (hr.mono (by decide)) (a_cons (e_ixL (d := ndD l) (e_nm 3 rfl) (e_neg e_int) (by show atI (z.F.map ndD) (-1) = _; rw [e, List.map_append]; exact atI_last)) (a_cons (e_nm 2 rfl) a_nil)) rfl (R_reach_of hll hLx)))
        · rw [if_neg (of_decide_eq_false h)]
          exact ss_nil
    · rw [if_pos (of_decide_eq_true h)]
      exact ss_one (s_setP (a := dn (fewS z.F (fewX z) (someQ (someF (fewF1 z))) (fewF5 (fewF1 z)))) 5 scFew.nd (e_nm 6 rfl))
    · rw [if_neg (of_decide_eq_false h)]
      exact ss_nil
    · have e : (fewNd z).v = bigN := by
        show fewV _ _ _ = _
        unfold fewV
        rw [if_pos (of_decide_eq_true h)]
      rw [e]
      exact ss_one (s_setP (a := dn bigN) 5 scFew.nd (E.cast (e_tup (a_cons (e_neg (e_pow e_int e_int ⟨by decide, by decide, by decide⟩)) (a_cons e_int a_nil)) rfl) rfl))
    · have e : (fewNd z).v = if takeV (fewF6 z.F (fewF5 (fewF1 z))) 2 = 0 then (fewS z.F (fewX z) (someQ (someF (fewF1 z))) (fewF5 (fewF1 z))) else (someQ (fewF1 z)) := by
        show fewV _ _ _ = _
        unfold fewV
        rw [if_neg (of_decide_eq_false h)]
      rw [e]
      exact ss_nil
    · have e : (z.F ++ [fewNd z]).map ndD = z.F.map ndD ++ [ndD (fewNd z)] := by
        rw [List.map_append]
        rfl
      unfold fewS4
      rw [e]
      exact s_append (d := ndD (fewNd z)) 3 (e_tup (a_cons (e_nm 2 rfl) (a_cons (e_nm 5 rfl) (a_cons (e_nm 6 rfl) (a_cons (e_nm 8 rfl) a_nil)))) rfl) rfl rfl rfl rfl (by rw [List.length_map, I.len]; omega)
end
end G
end EX16
section EX17
set_option Elab.async false
set_option linter.all false
set_option maxRecDepth 100000
set_option maxHeartbeats 4000000
set_option exponentiation.threshold 500000
namespace G
open PySem PySem.Spec PyProof.Rows L2
theorem lat_q52 : Lat 2 3 q52 := ⟨5, by decide +kernel, by decide⟩
theorem lat_q32 : Lat 2 2 q32 := ⟨3, by decide +kernel, by decide⟩
theorem lat_q13 : Lat 3 1 q13 := ⟨1, by decide +kernel, by decide⟩
theorem lat_q34 : Lat 4 1 q34 := ⟨3, by decide +kernel, by decide⟩
theorem lat_q152 : Lat 2 8 q152 := ⟨15, by decide +kernel, by decide⟩
theorem latI {i : Int} {M : Nat} (h : i.natAbs ≤ M) (D N : Nat) (hN : M ≤ N) : Lat D N (i : Rat) := by
  have := (Lat.int h).up D N hN
  rw [Nat.one_mul] at this
  exact this
def halfQ (t : Int) : Rat := Rat.divInt t 2
theorem halfQ_eq (t : Int) : halfQ t * 2 = (t : Rat) := by
  unfold halfQ
  rw [Rat.divInt_eq_div]
  have : ((2 : Int) : Rat) = 2 := rfl
  rw [this]
  grind
theorem half_lat {t : Int} {M : Nat} (h : t.natAbs ≤ M) : Lat 2 M (halfQ t) := ⟨t, halfQ_eq t, by omega⟩
theorem half_nn {t : Int} (h : 0 ≤ t) : 0 ≤ halfQ t := by
  have e := halfQ_eq t
  have : (0 : Rat) ≤ (t : Rat) := by
    have := Rat.intCast_le_intCast.mpr h
    exact this
  grind
/-! ### parts -/
def lowL (t : Int) : List Rat := [0, 1, q52, 3, 10, halfQ t]
def wideL : List Rat := [0, 0, q12, 2, 5, q73, 20]
structure PS' where
  f : Fd
  F : List Pt
def ptLow (f : Fd) : Rat := pickV (lowL (takeV f 30)) 0 (takeF f 30)
def ptF2 (f : Fd) : Fd := takeF (takeF f 30) 6
def ptWide (f : Fd) : Rat := pickV wideL 0 (ptF2 f)
def ptF3 (f : Fd) : Fd := takeF (ptF2 f) 7
def ptOf (f : Fd) : Pt := ⟨1 + takeV (ptF3 f) 9, ptLow f, ptLow f + ptWide f⟩
def partStep (z : PS') : PS' := ⟨takeF (ptF3 z.f) 9, z.F ++ [ptOf z.f]⟩
def partI (f : Fd) : Nat → PS'
  | 0 => ⟨f, []⟩
  | i + 1 => partStep (partI f i)
structure PI' (i : Nat) (z : PS') : Prop where
  f : okF z.f
  len : z.F.length = i
  ok : ∀ p ∈ z.F, GoodP p
theorem lowL_ok {t : Int} (h0 : 0 ≤ t) (h1 : t < 40) {q : Rat} (h : q ∈ lowL t) : Lat 2 50 q ∧ 0 ≤ q := by
  unfold lowL at h
  simp only [List.mem_cons, List.not_mem_nil, or_false] at h
  rcases h with rfl | rfl | rfl | rfl | rfl | rfl
  · exact ⟨lat0, by decide⟩
  · exact ⟨latI (i := 1) (M := 1) (by decide) 2 50 (by decide), by decide⟩
  · exact ⟨lat_q52.mono (by decide), by decide⟩
  · exact ⟨latI (i := 3) (M := 3) (by decide) 2 50 (by decide), by decide⟩
  · exact ⟨latI (i := 10) (M := 10) (by decide) 2 50 (by decide), by decide⟩
  · exact ⟨half_lat (by omega), half_nn h0⟩
theorem wideL_ok {q : Rat} (h : q ∈ wideL) : Lat 6 20 q ∧ 0 ≤ q := by
  unfold wideL at h
  simp only [List.mem_cons, List.not_mem_nil, or_false] at h
  rcases h with rfl | rfl | rfl | rfl | rfl | rfl | rfl
  · exact ⟨lat0, by decide⟩
  · exact ⟨lat0, by decide⟩
  · exact ⟨lat_q12.up 3 20 (by decide), by decide⟩
  · exact ⟨latI (i := 2) (M := 2) (by decide) 6 20 (by decide), by decide⟩
  · exact ⟨latI (i := 5) (M := 5) (by decide) 6 20 (by decide), by decide⟩
  · exact ⟨lat_q73.up 2 20 (by decide), by decide⟩
  · exact ⟨latI (i := 20) (M := 20) (by decide) 6 20 (by decide), by decide⟩
theorem ptF2_ok {f : Fd} (h : okF f) : okF (ptF2 f) := takeF_ok (takeF_ok h (by decide)) (by decide)
theorem ptF3_ok {f : Fd} (h : okF f) : okF (ptF3 f) := takeF_ok (ptF2_ok h) (by decide)
theorem ptLow_ok {f : Fd} (h : okF f) : Lat 2 50 (ptLow f) ∧ 0 ≤ ptLow f := by
  have hv := takeV_ok (n := 30) h (by decide)
  exact lowL_ok hv.1 (by omega) (pickV_mem (takeF_ok h (by decide)) (by simp [lowL]))
theorem ptWide_ok {f : Fd} (h : okF f) : Lat 6 20 (ptWide f) ∧ 0 ≤ ptWide f := wideL_ok (pickV_mem (ptF2_ok h) (by decide))
theorem ptOf_ok {f : Fd} (h : okF f) : GoodP (ptOf f) := by
  have hv := takeV_ok (n := 9) (ptF3_ok h) (by decide)
  have h1 := ptLow_ok h
  have h2 := ptWide_ok h
  refine ⟨by show 1 ≤ 1 + takeV (ptF3 f) 9; omega, by show 1 + takeV (ptF3 f) 9 ≤ 9; omega, h1.2, by show ptLow f ≤ ptLow f + ptWide f; have := h2.2; grind, ?_, ?_⟩
  · exact h1.1.up 25945920 (2 ^ 20) (by decide)
  · exact ((h1.1.up 3 50 (Nat.le_refl _)).add h2.1).up 8648640 (2 ^ 20) (by decide)
theorem partI_ok {f : Fd} (h : okF f) : ∀ i, PI' i (partI f i)
  | 0 => ⟨h, rfl, fun p hp => by simp [partI] at hp⟩
  | i + 1 => by
    have I := partI_ok h i
    refine ⟨takeF_ok (ptF3_ok I.f) (by decide), ?_, fun p hp => ?_⟩
    · show ((partI f i).F ++ [_]).length = _
      rw [List.length_append, I.len]
      rfl
    · rcases List.mem_append.mp (show p ∈ (partI f i).F ++ [_] from hp) with h | h
      · exact I.ok p h
      · rw [List.mem_singleton.mp h]
        exact ptOf_ok I.f
def cntL : List Int := [4, 4, 8]
def cntM (f : Fd) : Int := pickV cntL 4 f
def partN (f : Fd) : Nat := (1 + takeV (takeF f 3) (cntM f)).toNat
def partF0 (f : Fd) : Fd := takeF (takeF f 3) (cntM f)
def partsPs (f : Fd) : List Pt := (partI (partF0 f) (partN f)).F
def partsFd (f : Fd) : Fd := (partI (partF0 f) (partN f)).f
theorem cntM_ok {f : Fd} (h : okF f) : cntM f = 4 ∨ cntM f = 8 := by
  have : cntM f ∈ cntL := pickV_mem h (by decide)
  unfold cntL at this
  simp only [List.mem_cons, List.not_mem_nil, or_false] at this
  omega
theorem partN_ok {f : Fd} (h : okF f) : 1 ≤ partN f ∧ partN f ≤ 8 ∧ (partN f : Int) = 1 + takeV (takeF f 3) (cntM f) := by
  have hc := cntM_ok h
  have := takeV_ok (n := cntM f) (takeF_ok h (n := 3) (by decide)) (by omega)
  unfold partN
  omega
theorem parts_ok {f : Fd} (h : okF f) : GoodPs (partsPs f) ∧ okF (partsFd f) := by
  have hc := cntM_ok h
  have I := partI_ok (f := partF0 f) (takeF_ok (takeF_ok h (by decide)) (by omega)) (partN f)
  have hn := partN_ok h
  exact ⟨⟨by unfold partsPs; rw [I.len]; omega, by unfold partsPs; rw [I.len]; omega, I.ok⟩, I.f⟩
section
variable {P : Program} {w : World} {K : PySem.W.Frag} {mg : Str → Option Value} {base : Heap} {C CS CR : Addr}
def R_parts (fe : List PyData) (as : List AV) (a : AV) (fe' : List PyData) : Prop := ∃ f : Fd, fe = feD f ∧ as = [] ∧ okF f ∧ a = .lst none ((partsPs f).map ptD) ∧ fe' = feD (partsFd f)
abbrev sParts : Stmt := top 82
abbrev nParts : List Str := ["_law_feed_here", "_law_found", "_law_turn", "_law_low", "_law_wide"]
theorem scParts : FnScope nParts ["_law_feed_here"] (defScope sParts) := ⟨rfl, rfl, rfl, by decide +kernel, rfl, by decide +kernel, by decide +kernel⟩
abbrev partS (p0 : Addr) (z : PS') (t : Ab) : Ab := some (.lst (some p0) (feD z.f)) :: some (.lst none (z.F.map ptD)) :: t
theorem half_R {t : Int} (h : t.natAbs < 2 ^ 10) : R_lnum [di t, di 2] (dn (halfQ t)) := ⟨t, 2, rfl, ⟨by decide, Nat.lt_of_lt_of_le h (pow_le (by decide)), Nat.lt_of_lt_of_le (show (2 : Int).natAbs < 2 ^ 3 by decide) (pow_le (by decide))⟩, rfl⟩
theorem lsmD {D M : Nat} {q : Rat} (h : Lat D M q) (h0 : 0 < D) (hd : D < 2 ^ 100) (hn : M * D < 2 ^ 1000) : Sm q := (h.bd h0 hd hn).sm (by decide) (by decide)
theorem c_parts {f : Addr} {fd : FuncData} (D : DefAt K mg "_law_parts" sParts ["_law_feed_here"] f fd) (N : NoG mg) (C1 : Cal P w K mg base "_law_take" 1 (spF K R_take)) (C2 : Cal P w K mg base "_law_pick" 2 (spF K R_pick)) (C3 : Cal P w K mg base "_law_number" 2 (spP K R_lnum)) (C4 : Cal P w K mg base "_law_plus" 3 (spP K (R_num2 (· + ·)))) : Cal P w K mg base "_law_parts" 4 (spF K R_parts) := by
  refine D.cal (feed_ok D.F scParts (fun fe as a fe' h => ?_) fun fe as a fe' h p0 cdv A outer s H Ex hr => ?_)
  · obtain ⟨f, rfl, rfl, _⟩ := h
    rfl
  · obtain ⟨f, rfl, rfl, hf, rfl, rfl⟩ := h
    have hc := cntM_ok hf
    have hn := partN_ok hf
    have hf3 : okF (takeF f 3) := takeF_ok hf (by decide)
    refine .inl ⟨_, _, ss_cons (s_setP (a := .lst none []) 1 scParts.nd (e_list a_nil rfl))
      (ss_cons (s_forR (n := partN f) (js := [2]) (st := fun i => partS p0 (partI (partF0 f) i) [none, none, none]) (δd := fun i => partS p0 (partI (partF0 f) i) [some (di i), none, none])
        (a_cons (E.cast (e_add e_int (e_callF C1 (hr.mono (by decide)) (a_cons (e_nm 0 rfl) (a_cons (e_callF C2 (hr.mono (by decide)) (a_cons (e_nm 0 rfl) (a_cons (e_list (a_cons e_int (a_cons e_int (a_cons e_int a_nil))) rfl) a_nil)) rfl rfl rfl (R_pick_of (L := cntL) (df := 4) (g := .int) hf (by decide) (by decide) (fun _ => rfl))) a_nil)) rfl rfl rfl ⟨takeF f 3, cntM f, rfl, rfl, ⟨hf3, by omega, by omega⟩, rfl, rfl⟩)) (by rw [hn.2.2])) a_nil) (by omega) N.range ⟨rfl, rfl, trivial⟩ rfl (pg_name (i := 2) scParts.nd rfl (.inl rfl)) (fun i hi => tgx_name rfl) (fun i hi => rfl) fun i hi => ?_)
      (ss_one (s_ret (e_nm 1 rfl)))), .sl (i := 1) rfl, rfl⟩
    have I := partI_ok (f := partF0 f) (takeF_ok hf3 (by omega)) i
    show Ss _ _ _ (.nx (partS p0 (partStep (partI (partF0 f) i)) [none, none, none]))
    generalize partI (partF0 f) i = z at *
    have hv := takeV_ok (n := 30) I.f (by decide)
    have hl := ptLow_ok I.f
    have hw := ptWide_ok I.f
    have e : (z.F ++ [ptOf z.f]).map ptD = z.F.map ptD ++ [ptD (ptOf z.f)] := by
      rw [List.map_append]
      rfl
    refine ss_cons (s_set (a := dn (ptLow z.f)) 3 scParts.nd (e_callF C2 (hr.mono (by decide)) (a_cons (e_nm 0 rfl) (a_cons (e_list (a_cons (e_tup (a_cons e_int (a_cons e_int a_nil)) rfl) (a_cons (e_tup (a_cons e_int (a_cons e_int a_nil)) rfl) (a_cons (e_tup (a_cons e_int (a_cons e_int a_nil)) rfl) (a_cons (e_tup (a_cons e_int (a_cons e_int a_nil)) rfl) (a_cons (e_tup (a_cons e_int (a_cons e_int a_nil)) rfl)
          (a_cons (e_call C3 (hr.mono (by decide)) (a_cons (e_callF C1 (hr.mono (by decide)) (a_cons (e_nm 0 rfl) (a_cons e_int a_nil)) rfl rfl rfl ⟨z.f, 30, rfl, rfl, ⟨I.f, by decide, by decide⟩, rfl, rfl⟩) (a_cons e_int a_nil)) rfl (half_R (by omega))) a_nil)))))) rfl) a_nil)) rfl rfl rfl (R_pick_of (L := lowL (takeV z.f 30)) (df := 0) (g := num) (takeF_ok I.f (by decide)) (by simp [lowL]) (by simp [lowL]) (fun _ => rfl))))
      (ss_cons (s_set (a := dn (ptWide z.f)) 4 scParts.nd (e_callF C2 (hr.mono (by decide)) (a_cons (e_nm 0 rfl) (a_cons (e_list (a_cons (e_tup (a_cons e_int (a_cons e_int a_nil)) rfl) (a_cons (e_tup (a_cons e_int (a_cons e_int a_nil)) rfl) (a_cons (e_tup (a_cons e_int (a_cons e_int a_nil)) rfl) (a_cons (e_tup (a_cons e_int (a_cons e_int a_nil)) rfl) (a_cons (e_tup (a_cons e_int (a_cons e_int a_nil)) rfl) (a_cons (e_tup (a_cons e_int (a_cons e_int a_nil)) rfl) (a_cons (e_tup (a_cons e_int (a_cons e_int a_nil)) rfl) a_nil))))))) rfl) a_nil)) rfl rfl rfl (R_pick_of (L := wideL) (df := 0) (g := num) (ptF2_ok I.f) (by decide) (by decide) (fun _ => rfl))))
      (ss_one (S.is (s_le (δ2 := partS p0 (partStep z) [none, none, none]) (δ1 := partS p0 (partStep z) [some (di i), some (dn (ptLow z.f)), some (dn (ptWide z.f))]) ?_ ⟨rfl, rfl, trivial⟩) rfl)))
    unfold partS
    show S _ _ _ (.nx [some (.lst (some p0) (feD (takeF (ptF3 z.f) 9))), some (.lst none ((z.F ++ [ptOf z.f]).map ptD)), some (di i), some (dn (ptLow z.f)), some (dn (ptWide z.f))])
    rw [e]
    exact S.is (s_append (d := ptD (ptOf z.f)) 1 (e_tup (a_cons (e_add e_int (e_callF C1 (hr.mono (by decide)) (a_cons (e_nm 0 rfl) (a_cons e_int a_nil)) rfl rfl rfl ⟨ptF3 z.f, 9, rfl, rfl, ⟨ptF3_ok I.f, by decide, by decide⟩, rfl, rfl⟩)) (a_cons (e_nm 3 rfl) (a_cons (e_call C4 hr (a_cons (e_nm 3 rfl) (a_cons (e_nm 4 rfl) a_nil)) rfl ⟨ptLow z.f, ptWide z.f, rfl, ⟨lsmD hl.1 (by decide) (by decide) (by decide), lsmD hw.1 (by decide) (by decide) (by decide)⟩, rfl⟩) a_nil))) rfl) rfl rfl rfl rfl (by rw [List.length_map, I.len]; omega)) rfl
/-! ### cut_right -/
theorem e_eqN {X : Cx} {δ δ1 δ2 : Ab} {e1 e2 : Expr} {pos : Pos} {p q : Rat} (hu : X.A.units + 64 < cLine) (ha : E X e1 δ (dn p) δ1) (hb : E X e2 δ1 (dn q) δ2) : E X (.Compare e1 [.Eq] [e2] pos) δ (db (decide (p = q))) δ2 := by
  have z := e_cmp (op_eqD hu) ha hb (ox_eqD (δ := δ2) rfl rfl shaped_num shaped_num) (nomark _) (pos := pos)
  rw [eqv_num] at z
  exact z
theorem mean_bd {ns : List Nd} {ps : List Pt} (g : Good ns) (gp : GoodPs ps) : Bd 1500 600 (meanQ ns ps) := by
  have htot := pm_tot (xs := ps) (f := fun p => pmQ ns p.l p.h) (c := Pt.c) gp.l8 (fun p hp => ⟨pm_ok g (gp.ok p hp).ll (gp.ok p hp).l0 (gp.ok p hp).hh, (gp.ok p hp).cabs⟩) ps.length
  rw [List.take_length] at htot
  exact (htot.div (hous_dv gp).1 (hous_dv gp).2).mono (by decide) (by decide)
theorem share_bd {rs : List Pr} {ps : List Pt} (g : GoodR rs) (gp : GoodPs ps) : Bd 1500 600 (shareQ rs ps) := by
  have htot := pm_tot (xs := ps) (f := fun p => shQ rs p.l p.h) (c := Pt.c) gp.l8 (fun p hp => ⟨sh_ok g (gp.ok p hp).ll (gp.ok p hp).hh, (gp.ok p hp).cabs⟩) ps.length
  rw [List.take_length] at htot
  exact (htot.div (hous_dv gp).1 (hous_dv gp).2).mono (by decide) (by decide)
def cwL : List Rat := [1, q32, 5, 12]
def cfL : List Rat := [q12, q13, q34]
def cutLow (f : Fd) : Rat := halfQ (takeV f 20)
def cutWide (f : Fd) : Rat := pickV cwL 0 (takeF f 20)
def cutF2 (f : Fd) : Fd := takeF (takeF f 20) 4
def cutFr (f : Fd) : Rat := pickV cfL 0 (cutF2 f)
def cutF3 (f : Fd) : Fd := takeF (cutF2 f) 3
def cutC (f : Fd) : Rat := cutLow f + cutWide f * cutFr f
def cutH (f : Fd) : Rat := cutLow f + cutWide f
def cutAt (f : Fd) (n : Nat) : Nat := (takeV (cutF3 f) n).toNat
def cutFd (f : Fd) (n : Nat) : Fd := takeF (cutF3 f) n
def cutOne (f : Fd) (ns : List Nd) : Rat := (ns.getD (cutAt f ns.length) ⟨0, 0, 0, 0⟩).x
def cutOth (f : Fd) (ns : List Nd) : Rat := match ns[cutAt f ns.length + 1]? with
  | some n => n.x
  | none => cutOne f ns + 4
theorem cwL_ok {q : Rat} (h : q ∈ cwL) : Lat 2 12 q ∧ 0 < q := by
  unfold cwL at h
  simp only [List.mem_cons, List.not_mem_nil, or_false] at h
  rcases h with rfl | rfl | rfl | rfl
  · exact ⟨latI (i := 1) (M := 1) (by decide) 2 12 (by decide), by decide⟩
  · exact ⟨lat_q32.mono (by decide), by decide⟩
  · exact ⟨latI (i := 5) (M := 5) (by decide) 2 12 (by decide), by decide⟩
  · exact ⟨latI (i := 12) (M := 12) (by decide) 2 12 (by decide), by decide⟩
theorem cfL_ok {q : Rat} (h : q ∈ cfL) : Lat 12 1 q ∧ 0 < q ∧ q < 1 := by
  unfold cfL at h
  simp only [List.mem_cons, List.not_mem_nil, or_false] at h
  rcases h with rfl | rfl | rfl
  · exact ⟨lat_q12.up 6 1 (by decide), by decide, by decide⟩
  · exact ⟨lat_q13.up 4 1 (by decide), by decide, by decide⟩
  · exact ⟨lat_q34.up 3 1 (by decide), by decide, by decide⟩
structure CutOk (l c h : Rat) : Prop where
  l0 : 0 ≤ l
  lc : l < c
  ch : c < h
  ll : Lp l
  cc : Lp c
  hh : Lp h
theorem cut_ok {f : Fd} (hf : okF f) : CutOk (cutLow f) (cutC f) (cutH f) ∧ Lat 2 12 (cutWide f) ∧ Lat 12 1 (cutFr f) ∧ okF (cutF3 f) := by
  have hv := takeV_ok (n := 20) hf (by decide)
  have h1 : Lat 2 20 (cutLow f) := half_lat (by omega)
  have h2 := cwL_ok (pickV_mem (L := cwL) (df := 0) (takeF_ok hf (n := 20) (by decide)) (by decide))
  have hf2 : okF (cutF2 f) := takeF_ok (takeF_ok hf (by decide)) (by decide)
  have h3 := cfL_ok (pickV_mem (L := cfL) (df := 0) hf2 (by decide))
  change Lat 2 12 (cutWide f) ∧ 0 < cutWide f at h2
  change Lat 12 1 (cutFr f) ∧ 0 < cutFr f ∧ cutFr f < 1 at h3
  have h4 : 0 < cutWide f * cutFr f := Rat.mul_pos h2.2 h3.2.1
  have h5 : 0 < cutWide f * (1 - cutFr f) := Rat.mul_pos h2.2 (by have := h3.2.2; grind)
  have h0 : 0 ≤ cutLow f := half_nn hv.1
  refine ⟨⟨h0, ?_, ?_, ?_, ?_, ?_⟩, h2.1, h3.1, takeF_ok hf2 (by decide)⟩
  · unfold cutC
    grind
  · unfold cutC cutH
    grind
  · exact h1.up 25945920 (2 ^ 20) (by decide)
  · exact ((h1.up 12 20 (Nat.le_refl _)).add (h2.1.mul h3.1)).up 2162160 (2 ^ 20) (by decide)
  · exact (h1.add h2.1).up 25945920 (2 ^ 20) (by decide)
theorem good1 {c : Int} {l h : Rat} (hc : 1 ≤ c) (hc9 : c ≤ 9) (h0 : 0 ≤ l) (hlh : l ≤ h) (hl : Lp l) (hh : Lp h) : GoodPs [⟨c, l, h⟩] := ⟨by simp, by simp, fun p hp => by
  rw [List.mem_singleton.mp hp]
  exact ⟨hc, hc9, h0, hlh, hl, hh⟩⟩
/-- the nodes that a curve was made of, their places in a narrow net -/
structure Few6 (ns : List Nd) : Prop where
  g : Good ns
  l5 : ns.length ≤ 5
  x6 : ∀ n ∈ ns, Lat 6 50 n.x
theorem Few6.one {ns : List Nd} (w : Few6 ns) {f : Fd} (hf : okF f) : ns[cutAt f ns.length]? = some (ns.getD (cutAt f ns.length) ⟨0, 0, 0, 0⟩) ∧ cutAt f ns.length < ns.length ∧ (cutAt f ns.length : Int) = takeV (cutF3 f) ns.length ∧ okF (cutFd f ns.length) := by
  have hn : 0 < ns.length := by
    obtain ⟨n, r, rfl, _⟩ := w.g.head
    simp
  have hv := takeV_ok (n := (ns.length : Int)) (cut_ok hf).2.2.2 (by omega)
  have hlt : cutAt f ns.length < ns.length := by
    unfold cutAt
    omega
  refine ⟨?_, hlt, by unfold cutAt; omega, takeF_ok (cut_ok hf).2.2.2 (by omega)⟩
  rw [List.getD_eq_getElem?_getD, List.getElem?_eq_getElem hlt]
  rfl
theorem Few6.x1 {ns : List Nd} (w : Few6 ns) {f : Fd} (hf : okF f) : Lat 6 50 (cutOne f ns) ∧ 0 ≤ cutOne f ns ∧ Lat 6 54 (cutOth f ns) ∧ cutOne f ns < cutOth f ns := by
  have h1 := w.one hf
  have hm := List.mem_of_getElem? h1.1
  refine ⟨w.x6 _ hm, w.g.nonneg hm, ?_, ?_⟩
  · unfold cutOth
    split
    · rename_i n hn
      exact (w.x6 n (List.mem_of_getElem? hn)).mono (by decide)
    · exact (w.x6 _ hm).add (latI (i := 4) (M := 4) (by decide) 6 4 (by decide))
  · unfold cutOth
    split
    · rename_i n hn
      exact w.g.up _ _ _ h1.1 hn
    · show cutOne f ns < cutOne f ns + 4
      have : (0 : Rat) < 4 := by decide
      grind
def cutMid (f : Fd) (ns : List Nd) : Rat := (cutOne f ns + cutOth f ns) * q12
def CutLaw (f : Fd) (ns cs : List Nd) : Prop :=
  meanQ cs [⟨4, cutLow f, cutH f⟩] * cutWide f = meanQ cs [⟨1, cutLow f, cutC f⟩] * (cutC f - cutLow f) + meanQ cs [⟨1, cutC f, cutH f⟩] * (cutH f - cutC f) ∧
  meanQ cs [⟨2, cutOne f ns, cutOth f ns⟩] = val (nr cs (cutMid f ns)) (cutMid f ns)
def R_cutr (C : Addr) (fe : List PyData) (as : List AV) (a : AV) (fe' : List PyData) : Prop := ∃ (f : Fd) (ns cs : List Nd), fe = feD f ∧ as = [.dat (.list (ns.map ndD)), .ins C (curF cs)] ∧ (okF f ∧ Few6 ns ∧ Good cs ∧ CutLaw f ns cs) ∧ a = db true ∧ fe' = feD (cutFd f ns.length)
abbrev sCutr : Stmt := top 83
abbrev nCutr : List Str := ["_law_feed_here", "_law_nodes", "_law_curve", "_law_low", "_law_wide", "_law_cut", "_law_high", "_law_first", "_law_last", "_law_both", "_law_at_here", "_law_one", "_law_other"]
theorem scCutr : FnScope nCutr ["_law_feed_here", "_law_nodes", "_law_curve"] (defScope sCutr) := ⟨rfl, rfl, rfl, by decide +kernel, rfl, by decide +kernel, by decide +kernel⟩
theorem c_cutr {f : Addr} {fd : FuncData} (D : DefAt K mg "_law_cut_right" sCutr ["_law_feed_here", "_law_nodes", "_law_curve"] f fd) (N : NoG mg) (hfi : ∀ g, PySem.W.findIn K (.ref C) "__call__" = some (some (.ref g)) → PySem.W.fnIn K g = true) (C1 : Cal P w K mg base "_law_take" 1 (spF K R_take)) (C2 : Cal P w K mg base "_law_pick" 2 (spF K R_pick)) (C3 : Cal P w K mg base "_law_number" 2 (spP K R_lnum)) (C4 : Cal P w K mg base "_law_plus" 3 (spP K (R_num2 (· + ·)))) (C5 : Cal P w K mg base "_law_by" 3 (spP K (R_num2 (· * ·)))) (C6 : Cal P w K mg base "_law_minus" 3 (spP K (R_num2 (· - ·)))) (C7 : Cal P w K mg base "mean" 9 (spP K (R_mean C CS))) (C8 : KCal P w K mg base CS "Spread" 4 R_sinit) (C9 : MCal P w K mg base C "__call__" 7 (spP K (R_ccall C))) : Cal P w K mg base "_law_cut_right" 10 (spF K (R_cutr C)) := by
  refine D.cal (feed_ok D.F scCutr (fun fe as a fe' h => ?_) fun fe as a fe' h p0 cdv A outer s H Ex hr => ?_)
  · obtain ⟨f, ns, cs, rfl, rfl, _⟩ := h
    rfl
  · obtain ⟨f, ns, cs, rfl, rfl, ⟨hf, w6, gc, ⟨law1, law2⟩⟩, rfl, rfl⟩ := h
    obtain ⟨ck, hw, hfr, hf3⟩ := cut_ok hf
    have hv := takeV_ok (n := 20) hf (by decide)
    have hf2 : okF (cutF2 f) := takeF_ok (takeF_ok hf (by decide)) (by decide)
    obtain ⟨ho1, ho2, ho3, ho4⟩ := w6.one hf
    obtain ⟨hx1, hx2, hx3, hx4⟩ := w6.x1 hf
    have lo : Lp (cutOne f ns) := hx1.up 8648640 (2 ^ 20) (by decide)
    have lt : Lp (cutOth f ns) := hx3.up 8648640 (2 ^ 20) (by decide)
    have hne : ns.length < 6 := by have := w6.l5; omega
    have gpA : GoodPs [⟨1, cutLow f, cutC f⟩] := good1 (by decide) (by decide) ck.l0 (Rat.le_of_lt ck.lc) ck.ll ck.cc
    have gpB : GoodPs [⟨1, cutC f, cutH f⟩] := good1 (by decide) (by decide) (by have := ck.lc; have := ck.l0; grind) (Rat.le_of_lt ck.ch) ck.cc ck.hh
    have gpC : GoodPs [⟨4, cutLow f, cutH f⟩] := good1 (by decide) (by decide) ck.l0 (by have := ck.lc; have := ck.ch; grind) ck.ll ck.hh
    have gpD : GoodPs [⟨2, cutOne f ns, cutOth f ns⟩] := good1 (by decide) (by decide) hx2 (Rat.le_of_lt hx4) lo lt
    have bA := mean_bd gc gpA
    have bB := mean_bd gc gpB
    have bC := mean_bd gc gpC
    have sP : ∀ {q : Rat}, Lp q → Sm q := fun h => h.la.sm
    have sB : ∀ {q : Rat}, Bd 1500 600 q → Sm q := fun h => h.sm (by decide) (by decide)
    have b1 := ck.cc.la.bd.sub ck.ll.la.bd
    have b2 := ck.hh.la.bd.sub ck.cc.la.bd
    have hmid : Lat 12 104 (cutMid f ns) := ((hx1.add hx3).mul lat_q12).mono (by decide)
    have hmla : La (cutMid f ns) := hmid.up 4324320 M0 (by decide)
    have hm0 : 0 ≤ cutMid f ns := by
      have e2 : (0 : Rat) ≤ q12 := by decide
      exact Rat.mul_nonneg (by grind) e2
    refine .inl ⟨_, _, ss_cons (s_par 3 4 scCutr.nd (a_cons (e_call C3 (hr.mono (by decide)) (a_cons (e_callF C1 (hr.mono (by decide)) (a_cons (e_nm 0 rfl) (a_cons e_int a_nil)) rfl rfl rfl ⟨f, 20, rfl, rfl, ⟨hf, by decide, by decide⟩, rfl, rfl⟩) (a_cons e_int a_nil)) rfl (half_R (by omega)))
        (a_cons (e_callF C2 (hr.mono (by decide)) (a_cons (e_nm 0 rfl) (a_cons (e_list (a_cons (e_tup (a_cons e_int (a_cons e_int a_nil)) rfl) (a_cons (e_tup (a_cons e_int (a_cons e_int a_nil)) rfl) (a_cons (e_tup (a_cons e_int (a_cons e_int a_nil)) rfl) (a_cons (e_tup (a_cons e_int (a_cons e_int a_nil)) rfl) a_nil)))) rfl) a_nil)) rfl rfl rfl (R_pick_of (L := cwL) (df := 0) (g := num) (takeF_ok hf (n := 20) (by decide)) (by decide) (by decide) (fun _ => rfl))) a_nil)))
      (ss_cons (s_set (a := dn (cutC f)) 5 scCutr.nd (e_call C4 (hr.mono (by decide)) (a_cons (e_nm 3 rfl) (a_cons (e_call C5 (hr.mono (by decide)) (a_cons (e_nm 4 rfl) (a_cons (e_callF C2 (hr.mono (by decide)) (a_cons (e_nm 0 rfl) (a_cons (e_list (a_cons (e_tup (a_cons e_int (a_cons e_int a_nil)) rfl) (a_cons (e_tup (a_cons e_int (a_cons e_int a_nil)) rfl) (a_cons (e_tup (a_cons e_int (a_cons e_int a_nil)) rfl) a_nil))) rfl) a_nil)) rfl rfl rfl (R_pick_of (L := cfL) (df := 0) (g := num) hf2 (by decide) (by decide) (fun _ => rfl))) a_nil)) rfl ⟨cutWide f, cutFr f, rfl, ⟨lsmD hw (by decide) (by decide) (by decide), lsmD hfr (by decide) (by decide) (by decide)⟩, rfl⟩) a_nil)) rfl ⟨cutLow f, cutWide f * cutFr f, rfl, ⟨sP ck.ll, lsmD (hw.mul hfr) (by decide) (by decide) (by decide)⟩, rfl⟩))
      (ss_cons (s_setP (a := dn (cutH f)) 6 scCutr.nd (e_call C4 (hr.mono (by decide)) (a_cons (e_nm 3 rfl) (a_cons (e_nm 4 rfl) a_nil)) rfl ⟨cutLow f, cutWide f, rfl, ⟨sP ck.ll, lsmD hw (by decide) (by decide) (by decide)⟩, rfl⟩))
      (ss_cons (s_par 7 8 scCutr.nd (a_cons (e_call C7 hr (a_cons (e_nm 2 rfl) (a_cons (e_make C8 (hr.mono (by decide)) (a_cons (e_list (a_cons (e_tup (a_cons e_int (a_cons (e_nm 3 rfl) (a_cons (e_nm 5 rfl) a_nil))) rfl) a_nil) rfl) a_nil) rfl ⟨[⟨1, cutLow f, cutC f⟩], rfl, gpA, rfl⟩) a_nil)) rfl ⟨cs, _, rfl, ⟨gc, gpA⟩, rfl⟩)
        (a_cons (e_call C7 hr (a_cons (e_nm 2 rfl) (a_cons (e_make C8 (hr.mono (by decide)) (a_cons (e_list (a_cons (e_tup (a_cons e_int (a_cons (e_nm 5 rfl) (a_cons (e_nm 6 rfl) a_nil))) rfl) a_nil) rfl) a_nil) rfl ⟨[⟨1, cutC f, cutH f⟩], rfl, gpB, rfl⟩) a_nil)) rfl ⟨cs, _, rfl, ⟨gc, gpB⟩, rfl⟩) a_nil)))
      (ss_cons (s_setP (a := dn (meanQ cs [⟨1, cutLow f, cutC f⟩] * (cutC f - cutLow f) + meanQ cs [⟨1, cutC f, cutH f⟩] * (cutH f - cutC f))) 9 scCutr.nd (e_call C4 (hr.mono (by decide)) (a_cons (e_call C5 (hr.mono (by decide)) (a_cons (e_nm 7 rfl) (a_cons (e_call C6 (hr.mono (by decide)) (a_cons (e_nm 5 rfl) (a_cons (e_nm 3 rfl) a_nil)) rfl ⟨cutC f, cutLow f, rfl, ⟨sP ck.cc, sP ck.ll⟩, rfl⟩) a_nil)) rfl ⟨_, _, rfl, ⟨sB bA, b1.sm (by decide) (by decide)⟩, rfl⟩)
          (a_cons (e_call C5 (hr.mono (by decide)) (a_cons (e_nm 8 rfl) (a_cons (e_call C6 (hr.mono (by decide)) (a_cons (e_nm 6 rfl) (a_cons (e_nm 5 rfl) a_nil)) rfl ⟨cutH f, cutC f, rfl, ⟨sP ck.hh, sP ck.cc⟩, rfl⟩) a_nil)) rfl ⟨_, _, rfl, ⟨sB bB, b2.sm (by decide) (by decide)⟩, rfl⟩) a_nil)) rfl ⟨_, _, rfl, ⟨(bA.mul b1).sm (by decide) (by decide), (bB.mul b2).sm (by decide) (by decide)⟩, rfl⟩))
      (ss_cons (s_ifF (T.cast (t_neN hr.units (p := meanQ cs [⟨4, cutLow f, cutH f⟩] * cutWide f) (e_call C5 (hr.mono (by decide)) (a_cons (e_call C7 hr (a_cons (e_nm 2 rfl) (a_cons (e_make C8 (hr.mono (by decide)) (a_cons (e_list (a_cons (e_tup (a_cons e_int (a_cons (e_nm 3 rfl) (a_cons (e_nm 6 rfl) a_nil))) rfl) a_nil) rfl) a_nil) rfl ⟨[⟨4, cutLow f, cutH f⟩], rfl, gpC, rfl⟩) a_nil)) rfl ⟨cs, _, rfl, ⟨gc, gpC⟩, rfl⟩) (a_cons (e_nm 4 rfl) a_nil)) rfl ⟨meanQ cs [⟨4, cutLow f, cutH f⟩], cutWide f, rfl, ⟨sB bC, lsmD hw (by decide) (by decide) (by decide)⟩, rfl⟩) (e_nm 9 rfl)) (by rw [decide_eq_true law1]; rfl)) pss_no ss_nil)
      (ss_cons (s_set (a := di (cutAt f ns.length)) 10 scCutr.nd (E.cast (e_callF C1 (hr.mono (by decide)) (a_cons (e_nm 0 rfl) (a_cons (e_len (e_nm 1 rfl) rfl N.len) a_nil)) rfl rfl rfl ⟨cutF3 f, ns.length, rfl, by rw [List.length_map], ⟨hf3, by omega, by omega⟩, rfl, rfl⟩) (by rw [ho3])))
      (ss_cons (s_setP (a := dn (cutOne f ns)) 11 scCutr.nd (e_ixT (e_ixL (d := ndD (ns.getD (cutAt f ns.length) ⟨0, 0, 0, 0⟩)) (e_nm 1 rfl) (e_nm 10 rfl) (by show atI (ns.map ndD) ((cutAt f ns.length : Nat) : Int) = _; rw [atI_nat (by rw [List.length_map]; exact ho2), List.getElem?_map, ho1]; rfl)) e_int rfl))
      (ss_cons (s_setP (a := dn (cutOth f ns)) 12 scCutr.nd ?_)
      (ss_one (s_ret (E.cast (e_eqN hr.units (e_call C7 hr (a_cons (e_nm 2 rfl) (a_cons (e_make C8 (hr.mono (by decide)) (a_cons (e_list (a_cons (e_tup (a_cons e_int (a_cons (e_nm 11 rfl) (a_cons (e_nm 12 rfl) a_nil))) rfl) a_nil) rfl) a_nil) rfl ⟨[⟨2, cutOne f ns, cutOth f ns⟩], rfl, gpD, rfl⟩) a_nil)) rfl ⟨cs, _, rfl, ⟨gc, gpD⟩, rfl⟩)
        (e_callO C9 hfi (hr.mono (by decide)) (e_nm 2 rfl) (a_cons (e_call C5 (hr.mono (by decide)) (a_cons (e_call C4 (hr.mono (by decide)) (a_cons (e_nm 11 rfl) (a_cons (e_nm 12 rfl) a_nil)) rfl ⟨cutOne f ns, cutOth f ns, rfl, ⟨sP lo, sP lt⟩, rfl⟩) (a_cons (e_tup (a_cons e_int (a_cons e_int a_nil)) rfl) a_nil)) rfl ⟨cutOne f ns + cutOth f ns, q12, rfl, ⟨(lo.la.bd.add lt.la.bd).sm (by decide) (by decide), lsmD lat_q12 (by decide) (by decide) (by decide)⟩, rfl⟩) a_nil) rfl ⟨cs, cutMid f ns, rfl, ⟨gc, hmla, hm0⟩, rfl⟩)) (a' := db true) (by rw [decide_eq_true law2])))))))))))), .dat rfl, rfl⟩
    have hT : ∀ {X : Cx} (_ : X = X), True := fun _ => trivial
    cases hnx : ns[cutAt f ns.length + 1]? with
    | some n =>
      have hlt := (List.getElem?_eq_some_iff.mp hnx).1
      have e : cutOth f ns = n.x := by
        unfold cutOth
        rw [hnx]
      rw [e]
      exact e_ifT (T.cast (t_lt (e_add (e_nm 10 rfl) e_int) (e_len (e_nm 1 rfl) rfl N.len)) (decide_eq_true (by rw [List.length_map]; omega))) (e_ixT (e_ixL (d := ndD n) (e_nm 1 rfl) (e_add (e_nm 10 rfl) e_int) (by show atI (ns.map ndD) ((cutAt f ns.length + 1 : Nat) : Int) = _; rw [atI_nat (by rw [List.length_map]; exact hlt), List.getElem?_map, hnx]; rfl)) e_int rfl) pe_no
    | none =>
      have hge := List.getElem?_eq_none_iff.mp hnx
      have e : cutOth f ns = cutOne f ns + 4 := by
        unfold cutOth
        rw [hnx]
      rw [e]
      exact e_ifF (T.cast (t_lt (e_add (e_nm 10 rfl) e_int) (e_len (e_nm 1 rfl) rfl N.len)) (decide_eq_false (by rw [List.length_map]; omega))) pe_no (e_call C4 (hr.mono (by decide)) (a_cons (e_nm 11 rfl) (a_cons (e_tup (a_cons e_int (a_cons e_int a_nil)) rfl) a_nil)) rfl ⟨cutOne f ns, 4, rfl, ⟨sP lo, ⟨by decide, by decide⟩⟩, rfl⟩)
end
end G
end EX17
section EX18
set_option Elab.async false
set_option linter.all false
set_option maxRecDepth 100000
set_option maxHeartbeats 4000000
set_option exponentiation.threshold 500000
namespace G
open PySem PySem.Spec PyProof.Rows L2
def shwL : List Rat := [1, 4, q152]
def shLow (f : Fd) : Rat := halfQ (takeV f 20 - 2)
def shWide (f : Fd) : Rat := pickV shwL 0 (takeF f 20)
def shF2 (f : Fd) : Fd := takeF (takeF f 20) 3
def shB1 (f : Fd) : Bool := decide (takeV (shF2 f) 2 = 0)
def shB2 (f : Fd) : Bool := decide (takeV (takeF (shF2 f) 2) 2 = 0)
def shStep (f : Fd) : Fd := takeF (takeF (shF2 f) 2) 2
def shRg (f : Fd) : Rg := ⟨some (shLow f, shB1 f), some (shLow f + shWide f, shB2 f)⟩
def shSet (f : Fd) : Pr := cutsOf (shRg f)
def outR (ps : List Pr) : List Pr := btw ((outP ps).1 ++ [((outP ps).2, TOPC)])
theorem shwL_ok {q : Rat} (h : q ∈ shwL) : Lat 2 8 q ∧ 0 < q := by
  unfold shwL at h
  simp only [List.mem_cons, List.not_mem_nil, or_false] at h
  rcases h with rfl | rfl | rfl
  · exact ⟨latI (i := 1) (M := 1) (by decide) 2 8 (by decide), by decide⟩
  · exact ⟨latI (i := 4) (M := 4) (by decide) 2 8 (by decide), by decide⟩
  · exact ⟨lat_q152, by decide⟩
theorem sh_ok1 {f : Fd} (hf : okF f) : Lat 2 30 (shLow f) ∧ Lat 2 8 (shWide f) ∧ 0 < shWide f ∧ okF (shF2 f) ∧ okF (shStep f) := by
  have hv := takeV_ok (n := 20) hf (by decide)
  have h2 := shwL_ok (pickV_mem (L := shwL) (df := 0) (takeF_ok hf (n := 20) (by decide)) (by decide))
  have hf2 : okF (shF2 f) := takeF_ok (takeF_ok hf (by decide)) (by decide)
  exact ⟨half_lat (by omega), h2.1, h2.2, hf2, takeF_ok (takeF_ok hf2 (by decide)) (by decide)⟩
theorem shRg_ok {f : Fd} (hf : okF f) : okRg (shRg f) := by
  obtain ⟨h1, h2, h3, _, _⟩ := sh_ok1 hf
  refine ⟨⟨lsmD h1 (by decide) (by decide) (by decide), lsmD (h1.add h2) (by decide) (by decide) (by decide)⟩, ?_⟩
  have hlt : shLow f < shLow f + shWide f := by grind
  show cb ⟨0, shLow f, _⟩ ⟨0, shLow f + shWide f, _⟩ = true
  unfold cb
  rw [if_neg (by simp), if_pos (by simp only; grind)]
  exact decide_eq_true hlt
structure SharesLaw (f : Fd) (qs : List Pt) : Prop where
  a : GoodR [shSet f]
  b : GoodR [shSet (shStep f)]
  o : GoodR (outR [shSet f])
  u : GoodR (btw ([shSet f] ++ [shSet (shStep f)]))
  n : GoodR (btw (andP [shSet f] [shSet (shStep f)]))
  s1 : shareQ [shSet f] qs + shareQ (outR [shSet f]) qs = 1
  s2 : shareQ (btw ([shSet f] ++ [shSet (shStep f)])) qs + shareQ (btw (andP [shSet f] [shSet (shStep f)])) qs = shareQ [shSet f] qs + shareQ [shSet (shStep f)] qs
section
variable {P : Program} {w : World} {K : PySem.W.Frag} {mg : Str → Option Value} {base : Heap} {C CS CR : Addr}
def R_shr (CS : Addr) (fe : List PyData) (as : List AV) (a : AV) (fe' : List PyData) : Prop := ∃ (f : Fd) (qs : List Pt), fe = feD f ∧ as = [.ins CS (rowsF qs)] ∧ (okF f ∧ GoodPs qs ∧ SharesLaw f qs) ∧ a = db true ∧ fe' = feD (shStep (shStep f))
abbrev sShr : Stmt := top 84
abbrev nShr : List Str := ["_law_feed_here", "_law_spread", "_law_sets", "_law_turn", "_law_low", "_law_wide", "_law_one", "_law_other", "_law_both"]
theorem scShr : FnScope nShr ["_law_feed_here", "_law_spread"] (defScope sShr) := ⟨rfl, rfl, rfl, by decide +kernel, rfl, by decide +kernel, by decide +kernel⟩
theorem rlins_hide {p C : Addr} {H : Hp} {vs : List V} {v : V} {fs : List (Str × PyData)} (hv0 : H p = some (.lst vs)) (h : RlIns K H v C fs) : RlIns K (hide p H) v C fs := by
  obtain ⟨n, q, dx, ws, rfl, hq, hn2, hd2⟩ := h
  exact ⟨n, q, dx, ws, rfl, by rw [hide_ne (ne_of hq hv0 (fun z => by cases z))]; exact hq, hn2, dps_t (hide_tsub hv0) _ _ n hd2⟩
/-- the state of the loop's turns -/
structure ShI (K : PySem.W.Frag) (CS CR : Addr) (H0 : Hp) (p0 : Addr) (vS : V) (qs : List Pt) (fi : Fd) (sets : List (List Pr)) (i : Nat) (σ : L2.St) (H : Hp) : Prop where
  len : σ.length = 9
  s0 : σ[0]? = some (some (.ref p0))
  s1 : σ[1]? = some (some vS)
  fe : LstAt K H p0 (feD fi)
  sp : RlIns K H vS CS (rowsF qs)
  ls : ∃ L vs, σ[2]? = some (some (.ref L)) ∧ H L = some (.lst vs) ∧ L ≠ p0 ∧ H0 L = none ∧ vs.length = i ∧ ∀ (j : Nat) v ps, vs[j]? = some v → sets[j]? = some ps → RlIns K H v CR (rgsF ps)
  base : Same (hide p0 H0) H
/-- what the turn's texts need: the known slots -/
theorem ShI.sr {H : Hp} {p0 : Addr} {vS : V} {qs : List Pt} {fi : Fd} {σ : L2.St} (hl : σ.length = 9) (h0 : σ[0]? = some (some (.ref p0))) (h1 : σ[1]? = some (some vS)) (hf : LstAt K H p0 (feD fi)) (hs : RlIns K H vS CS (rowsF qs)) {lo wi : Option (Rat × V)}
    (h4 : ∀ q v, lo = some (q, v) → σ[4]? = some (some v) ∧ Dp K H v (num q)) (h5 : ∀ q v, wi = some (q, v) → σ[5]? = some (some v) ∧ Dp K H v (num q)) {B : Hp} (hB : Same B H) (hB0 : B p0 = none) :
    SR K B H σ [some (.lst (some p0) (feD fi)), some (.ins CS (rowsF qs)), none, none, lo.map fun z => dn z.1, wi.map fun z => dn z.1, none, none, none] := by
  have at_ : ∀ {i : Nat} {a : AV}, [some (AV.lst (some p0) (feD fi)), some (.ins CS (rowsF qs)), none, none, lo.map fun z => dn z.1, wi.map fun z => dn z.1, none, none, none][i]? = some (some a) → (i = 0 ∧ a = .lst (some p0) (feD fi)) ∨ (i = 1 ∧ a = .ins CS (rowsF qs)) ∨ (i = 4 ∧ ∃ q v, lo = some (q, v) ∧ a = dn q) ∨ (i = 5 ∧ ∃ q v, wi = some (q, v) ∧ a = dn q) := fun {i a} e => by
    match i, e with
    | 0, e => cases e; exact .inl ⟨rfl, rfl⟩
    | 1, e => cases e; exact .inr (.inl ⟨rfl, rfl⟩)
    | 2, e => cases e
    | 3, e => cases e
    | 4, e =>
      cases lo with
      | none => cases e
      | some z => cases e; exact .inr (.inr (.inl ⟨rfl, z.1, z.2, rfl, rfl⟩))
    | 5, e =>
      cases wi with
      | none => cases e
      | some z => cases e; exact .inr (.inr (.inr ⟨rfl, z.1, z.2, rfl, rfl⟩))
    | 6, e => cases e
    | 7, e => cases e
    | 8, e => cases e
    | n + 9, e => cases e
  refine ⟨hB, by rw [hl]; rfl, fun i a e => ?_, fun i j o ds a e1 e2 h3 _ => ?_, fun j i e => ?_⟩
  · rcases at_ e with ⟨rfl, rfl⟩ | ⟨rfl, rfl⟩ | ⟨rfl, q, v, e1, rfl⟩ | ⟨rfl, q, v, e1, rfl⟩
    · exact ⟨_, h0, p0, rfl, fun q e => Option.some.inj e, hB0, hf⟩
    · exact ⟨_, h1, hs⟩
    · exact ⟨v, (h4 q v e1).1, .inr ⟨rfl, (h4 q v e1).2⟩⟩
    · exact ⟨v, (h5 q v e1).1, .inr ⟨rfl, (h5 q v e1).2⟩⟩
  · rcases at_ e1 with ⟨rfl, _⟩ | ⟨_, z⟩ | ⟨_, q, v, _, z⟩ | ⟨_, q, v, _, z⟩
    · rcases at_ e2 with ⟨rfl, _⟩ | ⟨_, z⟩ | ⟨_, q, v, _, z⟩ | ⟨_, q, v, _, z⟩
      · rfl
      all_goals
        subst z
        rcases h3 with ⟨_, _, z⟩ | ⟨_, z⟩ <;> cases z
    all_goals cases z
  · rcases at_ e with ⟨_, z⟩ | ⟨_, z⟩ | ⟨_, q, v, _, z⟩ | ⟨_, q, v, _, z⟩ <;> cases z
section
variable {H0 H H2 : Hp} {p0 : Addr} {vS : V} {qs : List Pt} {fi f' : Fd} {sets : List (List Pr)} {i : Nat} {σ gs : L2.St} {γ : Ab} {a b : Option AV}
theorem ShI.srI (I : ShI K CS CR H0 p0 vS qs fi sets i σ H) : SR K (hide p0 H) H σ [some (.lst (some p0) (feD fi)), some (.ins CS (rowsF qs)), none, none, none, none, none, none, none] :=
  ShI.sr (lo := none) (wi := none) I.len I.s0 I.s1 I.fe I.sp (fun _ _ e => by cases e) (fun _ _ e => by cases e) hide_same hide_at
theorem ShI.move (I : ShI K CS CR H0 p0 vS qs fi sets i σ H) (S : SR K (hide p0 H) H2 (σ ++ gs) ([some (.lst (some p0) (feD f')), some (.ins CS (rowsF qs)), none, none, a, b, none, none, none] ++ γ)) : ShI K CS CR H0 p0 vS qs f' sets i σ H2 := by
  obtain ⟨u, h1, q, eu, hq, _, hfe⟩ := S.rel 0 _ rfl
  have e : q = p0 := hq p0 rfl
  subst e
  obtain ⟨u2, h2, hs⟩ := S.rel 1 _ rfl
  have e2 : u2 = vS := by
    rw [List.getElem?_append_left (by rw [I.len]; decide), I.s1] at h2
    cases h2
    rfl
  subst e2
  obtain ⟨_, vs0, hp0, _⟩ := I.fe
  obtain ⟨L, vs, g1, g2, g3, g4, g5, g6⟩ := I.ls
  refine ⟨I.len, I.s0, I.s1, hfe, hs, ⟨L, vs, g1, S.base _ _ (by rw [hide_ne g3]; exact g2), g3, g4, g5, fun j v ps e1 e2 => rlins_same S.base (rlins_hide hp0 (g6 j v ps e1 e2))⟩, ?_⟩
  exact (hide_base I.base hide_at).trans S.base
theorem ShI.put (I : ShI K CS CR H0 p0 vS qs fi sets i σ H) (j : Nat) (x : Option V) (hj : 2 < j) : ShI K CS CR H0 p0 vS qs fi sets i (σ.set j x) H := by
  obtain ⟨L, vs, g1, g2⟩ := I.ls
  refine ⟨by rw [List.length_set, I.len], ?_, ?_, I.fe, I.sp, ⟨L, vs, ?_, g2⟩, I.base⟩
  · rw [List.getElem?_set_ne (by omega)]
    exact I.s0
  · rw [List.getElem?_set_ne (by omega)]
    exact I.s1
  · rw [List.getElem?_set_ne (by omega)]
    exact g1
theorem ShI.app {L : Addr} {vs : List V} {y : V} {ps : List Pr} (I : ShI K CS CR H0 p0 vS qs fi sets i σ H) (hL : σ[2]? = some (some (.ref L))) (hv : H L = some (.lst vs)) (hy : RlIns K H y CR (rgsF ps)) (hps : sets[i]? = some ps) : ShI K CS CR H0 p0 vS qs fi sets (i + 1) σ (upd H L (.lst (vs ++ [y]))) := by
  obtain ⟨L', vs', g1, g2, g3, g4, g5, g6⟩ := I.ls
  rw [hL] at g1
  cases g1
  rw [hv] at g2
  cases g2
  have hS : Same (hide L H) (upd H L (.lst (vs ++ [y]))) := fun b o e => by
    by_cases hb : b = L
    · subst hb
      rw [hide_at] at e
      cases e
    · rw [hide_ne hb] at e
      rw [upd_ne hb]
      exact e
  have ri : ∀ {v : V} {C : Addr} {fs : List (Str × PyData)}, RlIns K H v C fs → RlIns K (upd H L (.lst (vs ++ [y]))) v C fs := fun h => rlins_same hS (rlins_hide hv h)
  obtain ⟨hn, ws, hw, hd⟩ := I.fe
  refine ⟨I.len, I.s0, I.s1, ⟨hn, ws, by rw [upd_ne (Ne.symm g3)]; exact hw, dps_t (fun a xs h => tsub_same hS _ _ (hide_tsub hv _ _ h)) _ _ hn hd⟩, ri I.sp, ⟨L, vs ++ [y], hL, upd_same, g3, g4, by rw [List.length_append, g5]; rfl, fun j v qs' e1 e2 => ?_⟩, ?_⟩
  · by_cases hj : j < vs.length
    · rw [List.getElem?_append_left hj] at e1
      exact ri (g6 j v qs' e1 e2)
    · rw [List.getElem?_append_right (by omega)] at e1
      have hj2 : j = vs.length := by
        have := (List.getElem?_eq_some_iff.mp e1).1
        simp at this
        omega
      subst hj2
      rw [Nat.sub_self] at e1
      cases e1
      rw [g5, hps] at e2
      cases e2
      exact ri hy
  · refine (hide_base I.base ?_).trans hS
    rw [hide_ne g3]
    exact g4
end
theorem for2 {B H : Hp} {δ δ' γ : Ab} {σ gs : L2.St} {g : TG} {tb : TS} {D : Ends} (Pv : Nat → L2.St → Hp → Prop) (hl : σ.length = δ.length) (S : SR K B H (σ ++ gs) (δ ++ γ)) (h0 : ∀ v H2, SR K B H2 (σ ++ gs ++ [some v]) (δ' ++ γ ++ [some (di 2)]) → Pv 0 σ H2)
    (hs : ∀ (i : Nat) σ H, i < 2 → Pv i σ H → g (.int (0 + (i : Int))) σ H fun σ2 H2 => tb { D with nx := Pv (i + 1), ct := Pv (i + 1), bk := D.nx } σ2 H2) (hd : ∀ σ H, Pv 2 σ H → D.nx σ H) : tFor (iRng1 (tA K δ [di 2] δ')) g tb D σ H :=
  ⟨B, gs, γ, hl, S, fun vs H2 hlen S2 => by
    obtain ⟨v, rfl, S3⟩ := one_of hlen S2
    exact ⟨2, by rw [int_of S3.last], by decide, by decide, for_range (lo := 0) (n := 2) (D := D) Pv (h0 _ _ S3) hs hd⟩⟩
theorem sr_end {H B : Hp} {p0 : Addr} {vS va vb : V} {qs : List Pt} {fi : Fd} {σ : L2.St} {pa pb : List Pr} (hl : σ.length = 9) (h0 : σ[0]? = some (some (.ref p0))) (h1 : σ[1]? = some (some vS)) (h6 : σ[6]? = some (some va)) (h7 : σ[7]? = some (some vb)) (hf : LstAt K H p0 (feD fi)) (hs : RlIns K H vS CS (rowsF qs)) (ha : RlIns K H va CR (rgsF pa)) (hb : RlIns K H vb CR (rgsF pb)) (hB : Same B H) (hB0 : B p0 = none) :
    SR K B H σ [some (.lst (some p0) (feD fi)), some (.ins CS (rowsF qs)), none, none, none, none, some (.ins CR (rgsF pa)), some (.ins CR (rgsF pb)), none] := by
  have at_ : ∀ {i : Nat} {a : AV}, [some (AV.lst (some p0) (feD fi)), some (.ins CS (rowsF qs)), none, none, none, none, some (.ins CR (rgsF pa)), some (.ins CR (rgsF pb)), none][i]? = some (some a) → (i = 0 ∧ a = .lst (some p0) (feD fi)) ∨ (i = 1 ∧ a = .ins CS (rowsF qs)) ∨ (i = 6 ∧ a = .ins CR (rgsF pa)) ∨ (i = 7 ∧ a = .ins CR (rgsF pb)) := fun {i a} e => by
    match i, e with
    | 0, e => cases e; exact .inl ⟨rfl, rfl⟩
    | 1, e => cases e; exact .inr (.inl ⟨rfl, rfl⟩)
    | 2, e => cases e
    | 3, e => cases e
    | 4, e => cases e
    | 5, e => cases e
    | 6, e => cases e; exact .inr (.inr (.inl ⟨rfl, rfl⟩))
    | 7, e => cases e; exact .inr (.inr (.inr ⟨rfl, rfl⟩))
    | 8, e => cases e
    | n + 9, e => cases e
  refine ⟨hB, by rw [hl]; rfl, fun i a e => ?_, fun i j o ds a e1 e2 h3 _ => ?_, fun j i e => ?_⟩
  · rcases at_ e with ⟨rfl, rfl⟩ | ⟨rfl, rfl⟩ | ⟨rfl, rfl⟩ | ⟨rfl, rfl⟩
    · exact ⟨_, h0, p0, rfl, fun q e => Option.some.inj e, hB0, hf⟩
    · exact ⟨_, h1, hs⟩
    · exact ⟨_, h6, ha⟩
    · exact ⟨_, h7, hb⟩
  · rcases at_ e1 with ⟨rfl, _⟩ | ⟨_, z⟩ | ⟨_, z⟩ | ⟨_, z⟩
    · rcases at_ e2 with ⟨rfl, _⟩ | ⟨_, z⟩ | ⟨_, z⟩ | ⟨_, z⟩
      · rfl
      all_goals
        subst z
        rcases h3 with ⟨_, _, z⟩ | ⟨_, z⟩ <;> cases z
    all_goals cases z
  · rcases at_ e with ⟨_, z⟩ | ⟨_, z⟩ | ⟨_, z⟩ | ⟨_, z⟩ <;> cases z
def fI (f : Fd) : Nat → Fd
  | 0 => f
  | i + 1 => shStep (fI f i)
theorem fI_ok {f : Fd} (h : okF f) : ∀ i, okF (fI f i)
  | 0 => h
  | i + 1 => (sh_ok1 (fI_ok h i)).2.2.2.2
abbrev mS (CS : Addr) (qs : List Pt) (p0 : Addr) (f : Fd) (a b : Option AV) : Ab := [some (.lst (some p0) (feD f)), some (.ins CS (rowsF qs)), none, none, a, b, none, none, none]
theorem c_shr {fa : Addr} {fd : FuncData} (D : DefAt K mg "_law_shares_right" sShr ["_law_feed_here", "_law_spread"] fa fd) (N : NoG mg) (G : RgCls K CR) (C1 : Cal P w K mg base "_law_take" 1 (spF K R_take)) (C2 : Cal P w K mg base "_law_pick" 2 (spF K R_pick)) (C3 : Cal P w K mg base "_law_number" 2 (spP K R_lnum)) (C4 : Cal P w K mg base "_law_plus" 3 (spP K (R_num2 (· + ·)))) (C5 : KCal P w K mg base CR "Ranges" 5 R_rinit) (C6 : Cal P w K mg base "share" 6 (spP K (R_share CR CS))) (C7 : MCal P w K mg base CR "outside" 8 (spP K (R_out CR))) (C8 : MCal P w K mg base CR "__or__" 8 (spP K (R_or CR))) (C9 : MCal P w K mg base CR "__and__" 8 (spP K (R_and CR))) : Cal P w K mg base "_law_shares_right" 9 (spF K (R_shr CS)) := by
  refine D.cal (D.F.ok scShr (fun vs H Q Ex h => ?_) (fun cdv A outer s H vs Q Ex hr h => ?_))
  · obtain ⟨p, vs', as, a, fe, fe', rfl, _, ⟨f, qs, rfl, rfl, _⟩, hv, _⟩ := h
    rw [List.length_cons, Paired.length hv]
    rfl
  · obtain ⟨p, vs', as, a, fe, fe', rfl, hL, ⟨f, qs, rfl, rfl, ⟨hf, gp, SL⟩, rfl, rfl⟩, hv, kq⟩ := h
    obtain ⟨vS, rfl, hvS⟩ : ∃ vS, vs' = [vS] ∧ RlIns K (hide p H) vS CS (rowsF qs) := by
      cases hv with
      | cons h1 h2 =>
        cases h2
        exact ⟨_, rfl, h1⟩
    have hb : ∀ i : Nat, PSs (cxOf CX0 P w K mg base nShr "_law_shares_right" (defScope sShr) fa cdv A outer s H Ex).nox (match (defBody sShr).getD 1 (.Pass ⟨0, 0, 0, 0⟩) with | .For _ _ b _ _ => b | _ => [])
        (tSeq (tPar 4 5 (tA K (mS CS qs p (fI f i) none none) [dn (shLow (fI f i)), dn (shWide (fI f i))] (mS CS qs p (shF2 (fI f i)) none none))) (tDrop (tBM K "list" rAppend (tVar 2) (tA K (mS CS qs p (shF2 (fI f i)) (some (dn (shLow (fI f i)))) (some (dn (shWide (fI f i))))) [.ins CR (rgsF [shSet (fI f i)])] (mS CS qs p (shStep (fI f i)) (some (dn (shLow (fI f i)))) (some (dn (shWide (fI f i))))))))) := fun i => by
      have hfi := fI_ok hf i
      generalize fI f i = g at *
      obtain ⟨o1, o2, o3, o4, o5⟩ := sh_ok1 hfi
      have hv := takeV_ok (n := 20) hfi (by decide)
      exact pss_cons (ps_par (x := "_law_low") (y := "_law_wide") rfl scShr.nd rfl rfl (by decide) rfl rfl (a_cons (e_call C3 (hr.mono (by decide)) (a_cons (e_sub (e_callF C1 (hr.mono (by decide)) (a_cons (e_nm 0 rfl) (a_cons e_int a_nil)) rfl rfl rfl ⟨g, 20, rfl, rfl, ⟨hfi, by decide, by decide⟩, rfl, rfl⟩) e_int) (a_cons e_int a_nil)) rfl (half_R (by omega)))
          (a_cons (e_callF C2 (hr.mono (by decide)) (a_cons (e_nm 0 rfl) (a_cons (e_list (a_cons (e_tup (a_cons e_int (a_cons e_int a_nil)) rfl) (a_cons (e_tup (a_cons e_int (a_cons e_int a_nil)) rfl) (a_cons (e_tup (a_cons e_int (a_cons e_int a_nil)) rfl) a_nil))) rfl) a_nil)) rfl rfl rfl (R_pick_of (L := shwL) (df := 0) (g := num) (takeF_ok hfi (n := 20) (by decide)) (by decide) (by decide) (fun _ => rfl))) a_nil)) rfl rfl)
        (pss_one (ps_expr (pe_bm PySem.F.plainAttrs_list PySem.F.slot_list_append PySem.F.type_list_append mt_append (pe_var (i := 2) rfl (.inl rfl)) (a_one (e_make C5 (hr.mono (by decide)) (a_cons (e_list (ds := [rgD (shRg g)]) (a_cons (e_tup (ds := [num (shLow g), .bool (shB1 g), num (shLow g + shWide g), .bool (shB2 g)]) (a_cons (e_nm 4 rfl) (a_cons (e_eqI (e_callF C1 (hr.mono (by decide)) (a_cons (e_nm 0 rfl) (a_cons e_int a_nil)) rfl rfl rfl ⟨shF2 g, 2, rfl, rfl, ⟨o4, by decide, by decide⟩, rfl, rfl⟩) e_int) (a_cons (e_call C4 (hr.mono (by decide)) (a_cons (e_nm 4 rfl) (a_cons (e_nm 5 rfl) a_nil)) rfl ⟨shLow g, shWide g, rfl, ⟨lsmD o1 (by decide) (by decide) (by decide), lsmD o2 (by decide) (by decide) (by decide)⟩, rfl⟩)
          (a_cons (e_eqI (e_callF C1 (hr.mono (by decide)) (a_cons (e_nm 0 rfl) (a_cons e_int a_nil)) rfl rfl rfl ⟨takeF (shF2 g) 2, 2, rfl, rfl, ⟨takeF_ok o4 (by decide), by decide, by decide⟩, rfl, rfl⟩) e_int) a_nil)))) rfl) a_nil) rfl) a_nil) rfl ⟨[shRg g], rfl, ⟨by simp, fun r hr => by rw [List.mem_singleton.mp hr]; exact shRg_ok hfi⟩, rfl⟩)))))
    have hR : Ss (cxOf CX0 P w K mg base nShr "_law_shares_right" (defScope sShr) fa cdv A outer s H Ex).nox ((defBody sShr).drop 3) [some (.lst (some p) (feD (shStep (shStep f)))), some (.ins CS (rowsF qs)), none, none, none, none, some (.ins CR (rgsF [shSet f])), some (.ins CR (rgsF [shSet (shStep f)])), none]
        (.ret (db true) [some (.lst (some p) (feD (shStep (shStep f)))), some (.ins CS (rowsF qs)), none, none, none, none, some (.ins CR (rgsF [shSet f])), some (.ins CR (rgsF [shSet (shStep f)])), some (dn (shareQ (btw ([shSet f] ++ [shSet (shStep f)])) qs + shareQ (btw (andP [shSet f] [shSet (shStep f)])) qs))]) := by
      have sB : ∀ {q : Rat}, Bd 1500 600 q → Sm q := fun h => h.sm (by decide) (by decide)
      have ba := share_bd SL.a gp
      have bb := share_bd SL.b gp
      have bo := share_bd SL.o gp
      have bu := share_bd SL.u gp
      have bn := share_bd SL.n gp
      have oa : okPs 30 [shSet f] := ⟨by simp, SL.a.ok.2⟩
      have ob : okPs 30 [shSet (shStep f)] := ⟨by simp, SL.b.ok.2⟩
      exact ss_cons (s_ifF (T.cast (t_neN hr.units (p := shareQ [shSet f] qs + shareQ (outR [shSet f]) qs) (q := 1) (e_call C4 (hr.mono (by decide)) (a_cons (e_call C6 (hr.mono (by decide)) (a_cons (e_nm 6 rfl) (a_cons (e_nm 1 rfl) a_nil)) rfl ⟨_, qs, rfl, ⟨SL.a, gp⟩, rfl⟩) (a_cons (e_call C6 (hr.mono (by decide)) (a_cons (e_meth0 C7 hr (e_nm 6 rfl) rfl ⟨_, rfl, oa, rfl⟩) (a_cons (e_nm 1 rfl) a_nil)) rfl ⟨outR [shSet f], qs, rfl, ⟨SL.o, gp⟩, rfl⟩) a_nil)) rfl ⟨_, _, rfl, ⟨sB ba, sB bo⟩, rfl⟩) (e_tup (a_cons e_int (a_cons e_int a_nil)) rfl)) (by rw [decide_eq_true SL.s1]; rfl)) pss_no ss_nil)
        (ss_cons (s_setP (a := dn (shareQ (btw ([shSet f] ++ [shSet (shStep f)])) qs + shareQ (btw (andP [shSet f] [shSet (shStep f)])) qs)) 8 scShr.nd (e_call C4 (hr.mono (by decide)) (a_cons (e_call C6 (hr.mono (by decide)) (a_cons (e_own C8 hr G.sf (e_nm 6 rfl) (e_nm 7 rfl) ⟨_, _, rfl, ⟨oa, ob⟩, rfl⟩) (a_cons (e_nm 1 rfl) a_nil)) rfl ⟨_, qs, rfl, ⟨SL.u, gp⟩, rfl⟩) (a_cons (e_call C6 (hr.mono (by decide)) (a_cons (e_own C9 hr G.sf (e_nm 6 rfl) (e_nm 7 rfl) ⟨_, _, rfl, ⟨oa, ob⟩, rfl⟩) (a_cons (e_nm 1 rfl) a_nil)) rfl ⟨_, qs, rfl, ⟨SL.n, gp⟩, rfl⟩) a_nil)) rfl ⟨_, _, rfl, ⟨sB bu, sB bn⟩, rfl⟩))
        (ss_one (s_ret (E.cast (e_eqN hr.units (p := shareQ (btw ([shSet f] ++ [shSet (shStep f)])) qs + shareQ (btw (andP [shSet f] [shSet (shStep f)])) qs) (q := shareQ [shSet f] qs + shareQ [shSet (shStep f)] qs) (e_nm 8 rfl) (e_call C4 (hr.mono (by decide)) (a_cons (e_call C6 (hr.mono (by decide)) (a_cons (e_nm 6 rfl) (a_cons (e_nm 1 rfl) a_nil)) rfl ⟨_, qs, rfl, ⟨SL.a, gp⟩, rfl⟩) (a_cons (e_call C6 (hr.mono (by decide)) (a_cons (e_nm 7 rfl) (a_cons (e_nm 1 rfl) a_nil)) rfl ⟨_, qs, rfl, ⟨SL.b, gp⟩, rfl⟩) a_nil)) rfl ⟨_, _, rfl, ⟨sB ba, sB bb⟩, rfl⟩)) (a' := db true) (by rw [decide_eq_true SL.s2])))))
    refine ⟨_, pss_cons (ps_set (i := 2) scShr.nd rfl (.inl rfl) (e_list (δ := mS CS qs p f none none) a_nil rfl)) (pss_cons (ps_for (tb := fun D σ H => ∃ i, i < 2 ∧ (tSeq (tPar 4 5 (tA K (mS CS qs p (fI f i) none none) [dn (shLow (fI f i)), dn (shWide (fI f i))] (mS CS qs p (shF2 (fI f i)) none none))) (tDrop (tBM K "list" rAppend (tVar 2) (tA K (mS CS qs p (shF2 (fI f i)) (some (dn (shLow (fI f i)))) (some (dn (shWide (fI f i))))) [.ins CR (rgsF [shSet (fI f i)])] (mS CS qs p (shStep (fI f i)) (some (dn (shLow (fI f i)))) (some (dn (shWide (fI f i))))))))) D σ H) PassesOwn.never rfl (pi_range1 rfl N.range (a_cons (e_int (δ := mS CS qs p f none none)) a_nil)) (pg_name (i := 3) scShr.nd rfl (.inl rfl)) ⟨fun pins s σ H D I ⟨i, hi, q⟩ => (hb i).run pins s σ H D I q⟩)
      (pss_cons (ps_asg (pe_var (i := 2) rfl (.inl rfl)) (pg_unl rfl (pgs_cons (pg_name (i := 6) scShr.nd rfl (.inl rfl)) (pgs_cons (pg_name (i := 7) scShr.nd rfl (.inl rfl)) pgs_nil))) rfl rfl rfl) hR)), ?_⟩
    have S0 : SR K (hide p H) H (L2.start nShr [.ref p, vS]) (mS CS qs p f none none) := ShI.sr (lo := none) (wi := none) rfl rfl rfl hL (rlins_same hide_same hvS) (fun _ _ e => by cases e) (fun _ _ e => by cases e) hide_same hide_at
    refine ⟨hide p H, [], [], rfl, by rw [List.append_nil]; exact S0, fun v H1 S1 => ?_⟩
    obtain ⟨L, rfl, _, hLB, _, vs0, hLv, hd0⟩ := S1.last
    cases hd0
    have hLp : L ≠ p := fun e => by
      subst e
      have := S1.dis 0 9 _ _ _ rfl rfl (.inl ⟨_, _, rfl⟩) rfl
      cases this
    have hL0 : H L = none := by
      rw [hide_ne hLp] at hLB
      exact hLB
    obtain ⟨u, h1, q, eu, hq, _, hfe⟩ := S1.rel 0 _ rfl
    have e : q = p := hq p rfl
    subst e
    obtain ⟨u2, h2, hs2⟩ := S1.rel 1 _ rfl
    cases h2
    have I0 : ShI K CS CR H q vS qs (fI f 0) [[shSet f], [shSet (shStep f)]] 0 ((L2.start nShr [.ref q, vS]).set 2 (some (.ref L))) H1 := ⟨rfl, rfl, rfl, hfe, hs2, ⟨L, [], rfl, hLv, hLp, hL0, rfl, fun j v ps e => by cases e⟩, S1.base⟩
    rw [show ∀ (v : V) (σ : L2.St) (H : Hp) (Q : L2.St → Hp → Prop), gName 2 v σ H Q = Q (σ.set 2 (some v)) H from fun _ _ _ _ => rfl]
    generalize (L2.start nShr [.ref q, vS]).set 2 (some (.ref L)) = σ1 at *
    have J0 := I0.srI
    dsimp only [tSeq]
    refine for2 (δ := mS CS qs q f none none) (δ' := mS CS qs q f none none) (B := hide q H1) (gs := []) (γ := []) (fun i σ H' => ShI K CS CR H q vS qs (fI f i) [[shSet f], [shSet (shStep f)]] i σ H') (by rw [I0.len]; rfl) (by rw [List.append_nil]; exact J0) (fun v2 H2 S3 => I0.move (gs := [] ++ [some v2]) (γ := [] ++ [some (di 2)]) (by rw [List.append_assoc] at S3; exact S3)) (fun i σ H' hi I => ?_) (fun σ H' I => ?_)
    · have hi2 : i < 2 := hi
      have hsets : [[shSet f], [shSet (shStep f)]][i]? = some [shSet (fI f i)] := by
        match i, hi2 with
        | 0, _ => rfl
        | 1, _ => rfl
      have I2 := I.put 3 (some (.int (0 + (i : Int)))) (by decide)
      show ∃ i, _
      refine ⟨i, hi2, ?_⟩
      generalize σ.set 3 (some (V.int (0 + (i : Int)))) = σ2 at *
      have J2 := I2.srI
      refine ⟨hide q H', [], [], by rw [I2.len]; rfl, by rw [List.append_nil]; exact J2, fun vs3 H3 hlen3 S3 => ?_⟩
      obtain ⟨v3, w3, rfl, S4⟩ := two_of hlen3 S3
      refine ⟨v3, w3, rfl, ?_⟩
      have I3 : ShI K CS CR H q vS qs (shF2 (fI f i)) [[shSet f], [shSet (shStep f)]] i σ2 H3 := I2.move (gs := [] ++ [some v3] ++ [some w3]) (γ := [] ++ [some (dn (shLow (fI f i)))] ++ [some (dn (shWide (fI f i)))]) (by rw [List.append_assoc, List.append_assoc] at S4; rw [List.append_assoc]; exact S4)
      have dv : Dp K H3 v3 (num (shLow (fI f i))) := S4.pop.dp (a := dn _) S4.pop.last rfl
      have dw : Dp K H3 w3 (num (shWide (fI f i))) := S4.dp (a := dn _) S4.last rfl
      have I4 := (I3.put 4 (some v3) (by decide)).put 5 (some w3) (by decide)
      have h4 : ((σ2.set 4 (some v3)).set 5 (some w3))[4]? = some (some v3) := by
        rw [List.getElem?_set_ne (by decide), List.getElem?_set_self (by rw [I3.len]; decide)]
      have h5 : ((σ2.set 4 (some v3)).set 5 (some w3))[5]? = some (some w3) := List.getElem?_set_self (by rw [List.length_set, I3.len]; decide)
      generalize (σ2.set 4 (some v3)).set 5 (some w3) = σ3 at *
      obtain ⟨L4, vs4, g1, g2, g3, g4, g5, g6⟩ := I4.ls
      have J4 := ShI.sr (CS := CS) (lo := some (shLow (fI f i), v3)) (wi := some (shWide (fI f i), w3)) I4.len I4.s0 I4.s1 I4.fe I4.sp (fun a b e => by cases e; exact ⟨h4, dv⟩) (fun a b e => by cases e; exact ⟨h5, dw⟩) (hide_same (p := q)) hide_at
      refine ⟨.ref L4, g1, .inl ⟨rfl, vs4, SqL.of g2⟩, hide q H3, [], [], by rw [I4.len]; rfl, by rw [List.append_nil]; exact J4, fun us H5 hlen5 S5 => ?_⟩
      obtain ⟨y, rfl, S6⟩ := one_of hlen5 S5
      have I5 : ShI K CS CR H q vS qs (shStep (fI f i)) [[shSet f], [shSet (shStep f)]] i σ3 H5 := I4.move (gs := [] ++ [some y]) (γ := [] ++ [some (.ins CR (rgsF [shSet (fI f i)]))]) (by rw [List.append_assoc] at S6; exact S6)
      have hy : RlIns K H5 y CR (rgsF [shSet (fI f i)]) := ins_of S6.last
      obtain ⟨L5, vs5, k1, k2, k3, k4, k5, k6⟩ := I5.ls
      rw [g1] at k1
      cases k1
      exact ⟨L4, vs5, y, rfl, rfl, k2, by rw [k5]; exact Nat.lt_of_lt_of_le hi2 (by decide), I5.app g1 k2 hy hsets⟩
    · obtain ⟨L6, vs6, g1, g2, g3, g4, g5, g6⟩ := I.ls
      have g5 : vs6.length = 2 := g5
      match vs6, g5, g2, g6 with
      | [va, vb], _, g2, g6 =>
        have r1 := g6 0 va _ rfl rfl
        have r2 := g6 1 vb _ rfl rfl
        have I7 := (I.put 6 (some va) (by decide)).put 7 (some vb) (by decide)
        refine ⟨.ref L6, g1, L6, [va, vb], rfl, SqL.of g2, rfl, va, [vb], rfl, vb, [], rfl, rfl, ?_⟩
        have h6 : ((σ.set 6 (some va)).set 7 (some vb))[6]? = some (some va) := by
          rw [List.getElem?_set_ne (by decide), List.getElem?_set_self (by rw [I.len]; decide)]
        have h7 : ((σ.set 6 (some va)).set 7 (some vb))[7]? = some (some vb) := List.getElem?_set_self (by rw [List.length_set, I.len]; decide)
        have J7 := sr_end I7.len I7.s0 I7.s1 h6 h7 I7.fe I7.sp r1 r2 I7.base hide_at
        refine ⟨hide q H, [], [], by rw [I7.len]; rfl, rfl, rfl, by rw [List.append_nil]; exact J7, fun σ' v8 H8 hl8 S8 => ?_⟩
        obtain ⟨u8, e8, q8, eu8, hq8, _, hfe8⟩ := S8.rel 0 _ rfl
        have e9 : q8 = q := hq8 q rfl
        subst e9
        exact kq v8 H8 (hide_base S8.base hide_at) hfe8 ⟨rfl, S8.dp (a := db true) S8.last rfl⟩
end
end G
end EX18
section EX19
set_option Elab.async false
set_option linter.all false
set_option maxRecDepth 100000
set_option maxHeartbeats 4000000
set_option exponentiation.threshold 500000
namespace G
open PySem PySem.Spec PyProof.Rows L2
def fewP (p : Pt) : Pt := ⟨1 + p.c % 3, p.l, p.h⟩
def tripP (p : Pt) : Pt := ⟨3 * p.c, p.l, p.h⟩
/-- what a turn of the law wants of its curves, parts and sets -/
structure TurnOk (ns ms : List Nd) (ps : List Pt) (k : Rat) (f4 : Fd) : Prop where
  of4 : okF f4
  w6 : Few6 ns
  gn : Good ns
  gm : Good ms
  gp : GoodPs ps
  lk : La k
  gs : Good (sumNs (prune ns) (prune ms))
  gneg : Good ((prune ms).map (scN (-1)))
  gsub : Good (subNs (prune ns) (prune ms))
  gk : Good ((prune ns).map (scN k))
  gl : Good (largerNs (prune ns) (prune ms))
  gf : GoodPs (ps.map fewP)
  gt : GoodPs ((ps.map fewP).map tripP)
  gr : GoodPs ps.reverse
  m1 : meanQ (prune (sumNs (prune ns) (prune ms))) ps = meanQ (prune ns) ps + meanQ (prune ms) ps
  m2 : meanQ (prune (subNs (prune ns) (prune ms))) ps = meanQ (prune ns) ps - meanQ (prune ms) ps
  m3 : meanQ (prune ((prune ns).map (scN k))) ps = meanQ (prune ns) ps * k
  m4 : ¬ meanQ (prune (largerNs (prune ns) (prune ms))) ps < meanQ (prune ns) ps
  m5 : meanQ (prune ns) ((ps.map fewP).map tripP) = meanQ (prune ns) (ps.map fewP)
  m6 : meanQ (prune ns) ps.reverse = meanQ (prune ns) ps
  cut : CutLaw f4 ns (prune ns)
  f5 : okF (cutFd f4 ns.length)
  sh : SharesLaw (cutFd f4 ns.length) ps
  g0 : GoodR []
  s3 : shareQ [] ps = 0
def AllOk (f : Fd) : Prop := TurnOk (prune (fewNs f)) (prune (fewNs (partsFd (fewFd f)))) (partsPs (fewFd f)) (someQ (fewFd (partsFd (fewFd f)))) (someF (fewFd (partsFd (fewFd f))))
section
variable {P : Program} {w : World} {K : PySem.W.Frag} {mg : Str → Option Value} {base : Heap} {C CS CR : Addr}
def R_law (as : List AV) (a : AV) : Prop := ∃ ns : List Int, as = [.dat (.list (ns.map .int))] ∧ ns.length ≤ 63 ∧ a = db true
abbrev sLaw : Stmt := top 85
abbrev nLaw : List Str := ["_law_script", "_law_k", "_law_feed_here", "_law_nodes", "_law_parts_here", "_law_one", "_law_other", "_law_spread", "_law_told", "_law_more", "_law_number_here", "_law_few_here", "_law_part"]
theorem scLaw : FnScope nLaw ["_law_script"] (defScope sLaw) := ⟨rfl, rfl, rfl, by decide +kernel, rfl, by decide +kernel, by decide +kernel⟩
def turns (n : Nat) : Nat := max 1 (min 5 n)
theorem c_law {f : Addr} {fd : FuncData} (HA : ∀ f, okF f → AllOk f) (D : DefAt K mg "law" sLaw ["_law_script"] f fd) (N : NoG mg) (GC : CuCls K C) (C1 : Cal P w K mg base "_law_feed" 1 (spP K R_feed)) (C2 : Cal P w K mg base "_law_few" 7 (spF K R_few)) (C3 : Cal P w K mg base "_law_parts" 4 (spF K R_parts)) (C4 : KCal P w K mg base C "Curve" 6 R_cinit) (C5 : KCal P w K mg base CS "Spread" 4 R_sinit) (C6 : Cal P w K mg base "mean" 9 (spP K (R_mean C CS))) (C7 : Cal P w K mg base "_law_some_number" 3 (spF K R_some))
    (C8 : Cal P w K mg base "_law_plus" 3 (spP K (R_num2 (· + ·)))) (C9 : Cal P w K mg base "_law_minus" 3 (spP K (R_num2 (· - ·)))) (C10 : Cal P w K mg base "_law_by" 3 (spP K (R_num2 (· * ·)))) (C11 : Cal P w K mg base "_law_less" 1 (spP K R_less)) (C12 : MCal P w K mg base C "__add__" 9 (spP K (R_sum C))) (C13 : MCal P w K mg base C "__sub__" 9 (spP K (R_sub C))) (C14 : MCal P w K mg base C "times" 9 (spP K (R_scaled C))) (C15 : MCal P w K mg base C "larger" 9 (spP K (R_larger C)))
    (C16 : Cal P w K mg base "_law_cut_right" 10 (spF K (R_cutr C))) (C17 : Cal P w K mg base "_law_shares_right" 9 (spF K (R_shr CS))) (C18 : Cal P w K mg base "share" 6 (spP K (R_share CR CS))) (C19 : KCal P w K mg base CR "Ranges" 5 R_rinit) : FnOk P w K mg base CX0 11 f fd ["_law_script"] (spP K R_law) := by
  refine (pure_ok D.F scLaw (fun as a h => ?_) fun as a h cdv A outer s H Ex hr => ?_)
  · obtain ⟨ns, rfl, _⟩ := h
    rfl
  · obtain ⟨zs, rfl, hlen, rfl⟩ := h
    have hn : turns zs.length ≤ 5 := by
      unfold turns
      omega
    have hcast : (if (if (zs.length : Int) < 5 then (zs.length : Int) else 5) > 1 then (if (zs.length : Int) < 5 then (zs.length : Int) else 5) else 1) = (turns zs.length : Int) := by
      have h1 : turns zs.length = if zs.length < 1 then 1 else if zs.length < 5 then zs.length else 5 := by
        unfold turns
        split <;> (try split) <;> omega
      rw [h1]
      (repeat' split) <;> omega
    refine .inl ⟨_, _, ss_cons (s_forR (n := turns zs.length) (js := [1]) (st := fun i => [some (.dat (.list (zs.map .int))), none, none, none, none, none, none, none, none, none, none, none, none]) (δd := fun i => [some (.dat (.list (zs.map .int))), some (di i), none, none, none, none, none, none, none, none, none, none, none])
        (a_cons (E.cast (e_max2 rfl (a_cons e_int (a_cons (e_min2 rfl (a_cons e_int (a_cons (e_len (e_nm 0 rfl) rfl N.len) a_nil)) N.min) a_nil)) N.max) (by rw [List.length_map]; exact congrArg di hcast)) a_nil) (by omega) N.range ⟨rfl, trivial⟩ rfl (pg_name (i := 1) scLaw.nd rfl (.inl rfl)) (fun i hi => tgx_name rfl) (fun i hi => rfl) fun i hi => ?_)
      (ss_one (s_ret e_bool)), .dat rfl, trivial⟩
    have hf0 := feedQ_ok zs i
    have hFeed : R_feed [.dat (.list (zs.map .int)), di i] (.lst none (feD (feedQ zs i))) := ⟨zs, i, rfl, ⟨hlen, by omega⟩, rfl⟩
    have tk := HA _ hf0
    unfold AllOk at tk
    generalize feedQ zs i = f at *
    have hF1 := few_FI hf0
    have hf1 : okF (fewFd f) := hF1.f
    have hP := parts_ok hf1
    have hF2 := few_FI hP.2
    have hf3 : okF (fewFd (partsFd (fewFd f))) := hF2.f
    have sB : ∀ {q : Rat}, Bd 1500 600 q → Sm q := fun h => h.sm (by decide) (by decide)
    have hlF : (fewNs f).length ≤ 60 := by
      have := hF1.len
      have := fewN_ok hf0
      unfold fewNs
      omega
    have rF1 : R_few (feD f) [di 4] (.lst none ((prune (fewNs f)).map ndD)) (feD (fewFd f)) := ⟨f, rfl, rfl, hf0, rfl, rfl⟩
    have rP1 : R_parts (feD (fewFd f)) [] (.lst none ((partsPs (fewFd f)).map ptD)) (feD (partsFd (fewFd f))) := ⟨_, rfl, rfl, hf1, rfl, rfl⟩
    have rF2 : R_few (feD (partsFd (fewFd f))) [di 4] (.lst none ((prune (fewNs (partsFd (fewFd f)))).map ndD)) (feD (fewFd (partsFd (fewFd f)))) := ⟨_, rfl, rfl, hP.2, rfl, rfl⟩
    have rS : R_some (feD (fewFd (partsFd (fewFd f)))) [] (dn (someQ (fewFd (partsFd (fewFd f))))) (feD (someF (fewFd (partsFd (fewFd f))))) := ⟨_, rfl, rfl, hf3, rfl, rfl⟩
    generalize prune (fewNs f) = ns at *
    generalize fewFd f = f1 at *
    generalize partsPs f1 = ps at *
    generalize partsFd f1 = f2 at *
    generalize prune (fewNs f2) = ms at *
    generalize fewFd f2 = f3 at *
    generalize someQ f3 = k at *
    generalize someF f3 = f4 at *
    have gA := tk.gn.prune
    have gB := tk.gm.prune
    have bA := mean_bd gA tk.gp
    have bB := mean_bd gB tk.gp
    have bS := mean_bd tk.gs.prune tk.gp
    have bD := mean_bd tk.gsub.prune tk.gp
    have bK := mean_bd tk.gk.prune tk.gp
    have bL := mean_bd tk.gl.prune tk.gp
    have hl8 := tk.gp.l8
    have hcnt : ∀ p ∈ ps.map fewP, p.c.natAbs < 2 ^ 4 := fun p hp => by
      have := (tk.gf.ok p hp).cabs
      omega
    refine ss_cons (s_setP (a := .lst none (feD f)) 2 scLaw.nd (e_call C1 (hr.mono (by decide)) (a_cons (e_nm 0 rfl) (a_cons (e_nm 1 rfl) a_nil)) rfl hFeed))
      (ss_cons (s_par 3 4 scLaw.nd (a_cons (e_callF C2 (hr.mono (by decide)) (a_cons (e_nm 2 rfl) (a_cons e_int a_nil)) rfl rfl rfl rF1) (a_cons (e_callF C3 (hr.mono (by decide)) (a_cons (e_nm 2 rfl) a_nil) rfl rfl rfl rP1) a_nil)))
      (ss_cons (s_par3 5 6 7 scLaw.nd (a_cons (e_make C4 (hr.mono (by decide)) (a_cons (e_nm 3 rfl) a_nil) rfl ⟨ns, rfl, tk.gn, rfl⟩) (a_cons (e_make C4 (hr.mono (by decide)) (a_cons (e_callF C2 (hr.mono (by decide)) (a_cons (e_nm 2 rfl) (a_cons e_int a_nil)) rfl rfl rfl rF2) a_nil) rfl ⟨ms, rfl, tk.gm, rfl⟩) (a_cons (e_make C5 (hr.mono (by decide)) (a_cons (e_nm 4 rfl) a_nil) rfl ⟨ps, rfl, tk.gp, rfl⟩) a_nil))))
      (ss_cons (s_par3 8 9 10 scLaw.nd (a_cons (e_call C6 (hr.mono (by decide)) (a_cons (e_nm 5 rfl) (a_cons (e_nm 7 rfl) a_nil)) rfl ⟨prune ns, ps, rfl, ⟨gA, tk.gp⟩, rfl⟩) (a_cons (e_call C6 (hr.mono (by decide)) (a_cons (e_nm 6 rfl) (a_cons (e_nm 7 rfl) a_nil)) rfl ⟨prune ms, ps, rfl, ⟨gB, tk.gp⟩, rfl⟩) (a_cons (e_callF C7 (hr.mono (by decide)) (a_cons (e_nm 2 rfl) a_nil) rfl rfl rfl rS) a_nil)))) ?_)))
    show Ss _ _ [some (.dat (.list (zs.map .int))), some (di i), some (.lst none (feD f4)), some (.lst none (ns.map ndD)), some (.lst none (ps.map ptD)), some (.ins C (curF (prune ns))), some (.ins C (curF (prune ms))), some (.ins CS (rowsF ps)), some (dn (meanQ (prune ns) ps)), some (dn (meanQ (prune ms) ps)), some (dn k), none, none] _
    refine ss_cons (s_ifF (w_pt (w_orF (T.cast (t_neN hr.units (p := meanQ (prune (sumNs (prune ns) (prune ms))) ps) (q := meanQ (prune ns) ps + meanQ (prune ms) ps) (e_call C6 (hr.mono (by decide)) (a_cons (e_own C12 (hr.mono (by decide)) GC.sf (e_nm 5 rfl) (e_nm 6 rfl) ⟨_, _, rfl, ⟨gA, gB, tk.gs⟩, rfl⟩) (a_cons (e_nm 7 rfl) a_nil)) rfl ⟨_, ps, rfl, ⟨tk.gs.prune, tk.gp⟩, rfl⟩) (e_call C8 (hr.mono (by decide)) (a_cons (e_nm 8 rfl) (a_cons (e_nm 9 rfl) a_nil)) rfl ⟨_, _, rfl, ⟨sB bA, sB bB⟩, rfl⟩)) (by rw [decide_eq_true tk.m1]; rfl))
          (w_or1 (T.cast (t_neN hr.units (p := meanQ (prune (subNs (prune ns) (prune ms))) ps) (q := meanQ (prune ns) ps - meanQ (prune ms) ps) (e_call C6 (hr.mono (by decide)) (a_cons (e_own C13 (hr.mono (by decide)) GC.sf (e_nm 5 rfl) (e_nm 6 rfl) ⟨_, _, rfl, ⟨gA, gB, tk.gneg, tk.gsub⟩, rfl⟩) (a_cons (e_nm 7 rfl) a_nil)) rfl ⟨_, ps, rfl, ⟨tk.gsub.prune, tk.gp⟩, rfl⟩) (e_call C9 (hr.mono (by decide)) (a_cons (e_nm 8 rfl) (a_cons (e_nm 9 rfl) a_nil)) rfl ⟨_, _, rfl, ⟨sB bA, sB bB⟩, rfl⟩)) (by rw [decide_eq_true tk.m2]; rfl))))) pss_no ss_nil)
      (ss_cons (s_ifF (T.cast (t_neN hr.units (p := meanQ (prune ((prune ns).map (scN k))) ps) (q := meanQ (prune ns) ps * k) (e_call C6 (hr.mono (by decide)) (a_cons (e_meth C14 (hr.mono (by decide)) (e_nm 5 rfl) rfl (a_cons (e_nm 10 rfl) a_nil) rfl ⟨_, k, rfl, ⟨gA, tk.lk, tk.gk⟩, rfl⟩) (a_cons (e_nm 7 rfl) a_nil)) rfl ⟨_, ps, rfl, ⟨tk.gk.prune, tk.gp⟩, rfl⟩) (e_call C10 (hr.mono (by decide)) (a_cons (e_nm 8 rfl) (a_cons (e_nm 10 rfl) a_nil)) rfl ⟨_, _, rfl, ⟨sB bA, lsm tk.lk⟩, rfl⟩)) (by rw [decide_eq_true tk.m3]; rfl)) pss_no ss_nil)
      (ss_cons (s_ifF (T.cast (t_val (e_call C11 (hr.mono (by decide)) (a_cons (e_call C6 (hr.mono (by decide)) (a_cons (e_meth C15 (hr.mono (by decide)) (e_nm 5 rfl) rfl (a_cons (e_nm 6 rfl) a_nil) rfl ⟨_, _, rfl, ⟨gA, gB, tk.gl⟩, rfl⟩) (a_cons (e_nm 7 rfl) a_nil)) rfl ⟨_, ps, rfl, ⟨tk.gl.prune, tk.gp⟩, rfl⟩) (a_cons (e_nm 8 rfl) a_nil)) rfl ⟨_, _, rfl, ⟨sB bL, sB bA⟩, rfl⟩)) (decide_eq_false tk.m4)) pss_no ss_nil)
      (ss_cons (s_setLc (a := .lst none ((ps.map fewP).map ptD)) 11 scLaw.nd (EL.cast (l_mapL (gg := ptD) (f := fun p => ptD (fewP p)) (xs := ps) (js := [12]) (own := [("_law_part", 12)]) (δd := fun p => [some (.dat (.list (zs.map .int))), some (di i), some (.lst none (feD f4)), some (.lst none (ns.map ndD)), some (.lst none (ps.map ptD)), some (.ins C (curF (prune ns))), some (.ins C (curF (prune ms))), some (.ins CS (rowsF ps)), some (dn (meanQ (prune ns) ps)), some (dn (meanQ (prune ms) ps)), some (dn k), none, some (.dat (ptD p))]) scLaw.nd (e_nm 4 rfl) (blkOk_by rfl) rfl (jn1 rfl)
          (fun s H C cl fp => pg_name (i := 12) scLaw.nd rfl (.inl rfl)) (fun p hm => tgx_name rfl) (fun p hm => Ups.set (j := 12) (d := ptD p) rfl)
          (fun p hm s H C cl fp => E.cast (e_tup (a_cons (e_add e_int (e_mod (e_int1 (e_ixT (e_nm 12 rfl) e_int rfl) N.int) e_int (by decide))) (a_cons (e_ixT (e_nm 12 rfl) e_int rfl) (a_cons (e_ixT (e_nm 12 rfl) e_int rfl) a_nil))) rfl) rfl) (fun _ => noL_pt _) (by omega) rfl) (by rw [List.map_map]; rfl)))
      (ss_cons (s_ifF (T.cast (t_neN hr.units (p := meanQ (prune ns) ((ps.map fewP).map tripP)) (q := meanQ (prune ns) (ps.map fewP)) (e_call C6 (hr.mono (by decide)) (a_cons (e_nm 5 rfl) (a_cons (e_make C5 (hr.mono (by decide)) (a_cons (e_mapL (gg := ptD) (f := fun p => ptD (tripP p)) (xs := ps.map fewP) (js := [12]) (own := [("_law_part", 12)]) (δd := fun p => [some (.dat (.list (zs.map .int))), some (di i), some (.lst none (feD f4)), some (.lst none (ns.map ndD)), some (.lst none (ps.map ptD)), some (.ins C (curF (prune ns))), some (.ins C (curF (prune ms))), some (.ins CS (rowsF ps)), some (dn (meanQ (prune ns) ps)), some (dn (meanQ (prune ms) ps)), some (dn k), some (.lst none ((ps.map fewP).map ptD)), some (.dat (ptD p))]) scLaw.nd (e_nm 11 rfl) (blkOk_by rfl) rfl (jn1 rfl)
            (fun s H C cl fp => pg_name (i := 12) scLaw.nd rfl (.inl rfl)) (fun p hm => tgx_name rfl) (fun p hm => Ups.set (j := 12) (d := ptD p) rfl)
            (fun p hm s H C cl fp => E.cast (e_tup (a_cons (e_mul e_int (e_ixT (d := .int p.c) (e_nm 12 rfl) e_int rfl) (wide_mul (a := 3) (b := 4) (by decide) (hcnt p hm) (by decide) (by decide) (by decide))) (a_cons (e_ixT (e_nm 12 rfl) e_int rfl) (a_cons (e_ixT (e_nm 12 rfl) e_int rfl) a_nil))) rfl) rfl) (fun _ => noL_pt _) (by rw [List.length_map]; omega) rfl) a_nil) rfl ⟨(ps.map fewP).map tripP, by simp only [List.map_map, Function.comp_def], tk.gt, rfl⟩) a_nil)) rfl ⟨_, _, rfl, ⟨gA, tk.gt⟩, rfl⟩)
          (e_call C6 (hr.mono (by decide)) (a_cons (e_nm 5 rfl) (a_cons (e_make C5 (hr.mono (by decide)) (a_cons (e_nm 11 rfl) a_nil) rfl ⟨ps.map fewP, rfl, tk.gf, rfl⟩) a_nil)) rfl ⟨_, _, rfl, ⟨gA, tk.gf⟩, rfl⟩)) (by rw [decide_eq_true tk.m5]; rfl)) pss_no ss_nil) ?_))))
    show Ss _ _ [some (.dat (.list (zs.map .int))), some (di i), some (.lst none (feD f4)), some (.lst none (ns.map ndD)), some (.lst none (ps.map ptD)), some (.ins C (curF (prune ns))), some (.ins C (curF (prune ms))), some (.ins CS (rowsF ps)), some (dn (meanQ (prune ns) ps)), some (dn (meanQ (prune ms) ps)), some (dn k), some (.lst none ((ps.map fewP).map ptD)), none] _
    refine ss_cons (s_ifF (w_pt (w_orF (T.cast (t_neN hr.units (p := meanQ (prune ns) ps.reverse) (q := meanQ (prune ns) ps) (e_call C6 (hr.mono (by decide)) (a_cons (e_nm 5 rfl) (a_cons (e_make C5 (hr.mono (by decide)) (a_cons (E.cast (e_revL (e_nm 4 rfl) rfl (noLs_map noL_pt _)) (a' := .lst none (ps.reverse.map ptD)) (by rw [List.map_reverse])) a_nil) rfl ⟨ps.reverse, rfl, tk.gr, rfl⟩) a_nil)) rfl ⟨_, _, rfl, ⟨gA, tk.gr⟩, rfl⟩) (e_nm 8 rfl)) (by rw [decide_eq_true tk.m6]; rfl))
          (w_or1 (t_nt (t_val (e_callF C16 hr (a_cons (e_nm 2 rfl) (a_cons (e_nm 3 rfl) (a_cons (e_nm 5 rfl) a_nil))) rfl rfl rfl ⟨f4, ns, prune ns, rfl, rfl, ⟨tk.of4, tk.w6, gA, tk.cut⟩, rfl, rfl⟩)))))) pss_no ss_nil) ?_
    show Ss _ _ [some (.dat (.list (zs.map .int))), some (di i), some (.lst none (feD (cutFd f4 ns.length))), some (.lst none (ns.map ndD)), some (.lst none (ps.map ptD)), some (.ins C (curF (prune ns))), some (.ins C (curF (prune ms))), some (.ins CS (rowsF ps)), some (dn (meanQ (prune ns) ps)), some (dn (meanQ (prune ms) ps)), some (dn k), some (.lst none ((ps.map fewP).map ptD)), none] _
    exact ss_one (S.is (s_le (δ2 := [some (.dat (.list (zs.map .int))), none, none, none, none, none, none, none, none, none, none, none, none]) (s_ifF (w_pt (w_orF (t_nt (t_val (e_callF C17 (hr.mono (by decide)) (a_cons (e_nm 2 rfl) (a_cons (e_nm 7 rfl) a_nil)) rfl rfl rfl ⟨cutFd f4 ns.length, ps, rfl, rfl, ⟨tk.f5, tk.gp, tk.sh⟩, rfl, rfl⟩)))
          (w_or1 (T.cast (t_neN hr.units (p := shareQ [] ps) (q := 0) (e_call C18 (hr.mono (by decide)) (a_cons (e_make C19 (hr.mono (by decide)) (a_cons (e_list a_nil rfl) a_nil) rfl ⟨[], rfl, ⟨by decide, fun r hr => by simp at hr⟩, rfl⟩) (a_cons (e_nm 7 rfl) a_nil)) rfl ⟨[], ps, rfl, ⟨tk.g0, tk.gp⟩, rfl⟩) (e_tup (a_cons e_int (a_cons e_int a_nil)) rfl)) (by rw [decide_eq_true tk.s3]; rfl))))) pss_no ss_nil) ⟨rfl, trivial⟩) rfl)
end
end G
end EX19
section MA1
set_option Elab.async false
set_option linter.all false
set_option maxRecDepth 100000
set_option maxHeartbeats 4000000
namespace G
/-! ### near, by the last node -/
theorem near_app {P : List Nd} {n : Nd} {q : Rat} : nearN (P ++ [n]) q = if q < n.x then nearN P q else some n := by
  unfold nearN
  rw [List.filter_append]
  by_cases h : q < n.x
  · rw [if_pos h]
    have : [n].filter (fun n => !decide (q < n.x)) = [] := by simp [h]
    rw [this, List.append_nil]
  · rw [if_neg h]
    have : [n].filter (fun n => !decide (q < n.x)) = [n] := by simp [h]
    rw [this]
    simp
/-- what a curve answers: value, start, slope -/
def tri (o : Option Nd) (q : Rat) : Option (Rat × Rat × Rat) := o.map fun n => (val n q, reach n q, n.r)
theorem prune_app_agree : ∀ {rest P F : List Nd}, (∀ q, tri (nearN F q) q = tri (nearN P q) q) → (∀ n ∈ F, n ∈ P) → (P = [] → F = []) → (F = [] → P = []) → (P ++ rest).Pairwise (fun a b => a.x < b.x) → ∀ q, tri (nearN (rest.foldl pruS F) q) q = tri (nearN (P ++ rest) q) q
  | [], P, F, h, _, _, _, _ => by rw [List.append_nil]; exact h
  | n :: rest, P, F, h, hs, he, he2, hp => by
    have hp2 : (P ++ [n] ++ rest).Pairwise (fun a b => a.x < b.x) := by
      rw [← List.append_cons]
      exact hp
    have hlt : ∀ m ∈ P, m.x < n.x := fun m hm => by
      have := (List.pairwise_append.mp (List.pairwise_append.mp hp2).1).2.2
      exact this m hm n (by simp)
    rw [List.foldl_cons, List.append_cons]
    refine prune_app_agree (rest := rest) (P := P ++ [n]) (F := pruS F n) (fun q => ?_) (fun m hm => ?_) (fun e => by simp at e) (fun e => absurd e pruS_ne) hp2
    · rw [near_app]
      rcases List.eq_nil_or_concat F with rfl | ⟨G, l, rfl⟩
      · have hP := he2 rfl
        subst hP
        have := near_app (P := []) (n := n) (q := q)
        show tri (nearN ([] ++ [n]) q) q = _
        rw [this]
      · rw [List.concat_eq_append] at *
        rw [pruS_app]
        have hl : l.x < n.x := hlt l (hs l (by simp))
        split
        · rename_i hc
          obtain ⟨c1, c2, c3⟩ := hc
          by_cases hq : q < n.x
          · rw [if_pos hq]
            exact h q
          · rw [if_neg hq, near_app, if_neg (by grind)]
            have hlq : l.x ≠ q := by grind
            have e1 : reach l q = reach n q := by
              unfold reach at *
              rw [c2, c3]
              grind
            show some (val l q, reach l q, l.r) = some (val n q, reach n q, n.r)
            have e2 : val l q = val n q := by
              unfold val
              rw [if_neg hlq]
              split
              · rename_i e
                rw [c1, e]
              · exact e1
            rw [e1, e2, c3]
        · rw [near_app]
          split
          · exact h q
          · rfl
    · rcases List.mem_append.mp (pruS_sub.mem hm) with h1 | h1
      · exact List.mem_append_left _ (hs m h1)
      · exact List.mem_append_right _ h1
theorem prune_agree {ns : List Nd} (hp : ns.Pairwise (fun a b => a.x < b.x)) (q : Rat) : tri (nearN (prune ns) q) q = tri (nearN ns q) q :=
  prune_app_agree (rest := ns) (P := []) (F := []) (fun _ => rfl) (fun _ h => h) (fun _ => rfl) (fun _ => rfl) hp q
theorem prune_same {ns : List Nd} (g : Good ns) {q : Rat} (h0 : 0 ≤ q) : val (nr (prune ns) q) q = val (nr ns q) q ∧ reach (nr (prune ns) q) q = reach (nr ns q) q ∧ (nr (prune ns) q).r = (nr ns q).r := by
  have e := prune_agree g.pw q
  rw [nr_eq g.prune h0, nr_eq g h0] at e
  have e2 := Option.some.inj e
  exact ⟨congrArg (·.1) e2, congrArg (·.2.1) e2, congrArg (·.2.2) e2⟩
/-! ### the node in force -/
theorem nr_le {ns : List Nd} {q : Rat} (g : Good ns) (h0 : 0 ≤ q) : (nr ns q).x ≤ q := by
  have := (List.mem_filter.mp (List.mem_of_getLast? (nr_eq g h0))).2
  simp only [Bool.not_eq_true', decide_eq_false_iff_not] at this
  grind
theorem pw_inj : ∀ {ns : List Nd} {m n : Nd}, ns.Pairwise (fun a b => a.x < b.x) → m ∈ ns → n ∈ ns → m.x = n.x → m = n
  | a :: ns, m, n, hp, hm, hn, e => by
    obtain ⟨h1, h2⟩ := List.pairwise_cons.mp hp
    rcases List.mem_cons.mp hm with e1 | hm1
    · rcases List.mem_cons.mp hn with e2 | hn1
      · rw [e1, e2]
      · have := h1 n hn1
        rw [e1] at e
        grind
    · rcases List.mem_cons.mp hn with e2 | hn1
      · have := h1 m hm1
        rw [e2] at e
        grind
      · exact pw_inj h2 hm1 hn1 e
theorem nr_max {ns : List Nd} {q : Rat} (g : Good ns) (h0 : 0 ≤ q) {m : Nd} (hm : m ∈ ns) (hq : m.x ≤ q) : m.x ≤ (nr ns q).x := by
  have e := nr_eq g h0
  unfold nearN at e
  obtain ⟨ys, e⟩ := List.getLast?_eq_some_iff.mp e
  have hm2 : m ∈ ns.filter (fun n => !decide (q < n.x)) := List.mem_filter.mpr ⟨hm, by simp; grind⟩
  rw [e] at hm2
  have hp := g.pw.filter (fun n => !decide (q < n.x))
  rw [e] at hp
  rcases List.mem_append.mp hm2 with h | h
  · have := (List.pairwise_append.mp hp).2.2 m h _ (List.mem_singleton.mpr rfl)
    grind
  · rw [List.mem_singleton.mp h]
    exact Rat.le_refl
theorem nr_uniq {ns : List Nd} {q : Rat} (g : Good ns) (h0 : 0 ≤ q) {n : Nd} (hn : n ∈ ns) (hq : n.x ≤ q) (hx : ∀ m ∈ ns, m.x ≤ q → m.x ≤ n.x) : nr ns q = n := by
  have h1 := nr_max g h0 hn hq
  have h2 := hx _ (nr_mem g h0) (nr_le g h0)
  exact pw_inj g.pw (nr_mem g h0) hn (by grind)
/-- no node lies strictly within -/
def Free2 (ns : List Nd) (p q : Rat) : Prop := ∀ n ∈ ns, ¬ (p < n.x ∧ n.x < q)
theorem nr_same {ns : List Nd} {p q : Rat} (g : Good ns) (h0 : 0 ≤ p) (hpq : p ≤ q) (h : ∀ n ∈ ns, n.x ≤ q → n.x ≤ p) : nr ns q = nr ns p := by
  have h0q : 0 ≤ q := by grind
  refine nr_uniq g h0q (nr_mem g h0) (by have := nr_le g h0; grind) fun m hm hq => nr_max g h0 hm (h m hm hq)
end G
end MA1
section MA2
set_option Elab.async false
set_option linter.all false
set_option maxRecDepth 100000
set_option maxHeartbeats 4000000
namespace G
/-! ### the measure of a curve -/
def quad (n : Nd) (q : Rat) : Rat := (q - n.x) * (n.s + (n.s + n.r * (q - n.x)))
def Jr : List Nd → Rat → Rat
  | [], _ => 0
  | [n], q => quad n q
  | n :: m :: rest, q => if q ≤ m.x then quad n q else quad n m.x + Jr (m :: rest) q
def segN (n : Nd) (p q : Rat) : Rat := (q - p) * (reach n p + (reach n p + n.r * (q - p)))
theorem segN_quad (n : Nd) (p q : Rat) : segN n p q = quad n q - quad n p := by
  unfold segN quad reach
  grind
theorem near_cons {n m : Nd} {rest : List Nd} {q : Rat} (hp : (n :: m :: rest).Pairwise (fun a b => a.x < b.x)) (h : n.x ≤ q) : nearN (n :: m :: rest) q = if q < m.x then some n else nearN (m :: rest) q := by
  have e : nearN (n :: m :: rest) q = ((n :: (m :: rest).filter fun n => !decide (q < n.x)).getLast?) := by
    unfold nearN
    rw [List.filter_cons_of_pos (by simp; grind)]
  rw [e]
  split
  · rename_i hq
    have : (m :: rest).filter (fun n => !decide (q < n.x)) = [] := by
      rw [List.filter_eq_nil_iff]
      intro k hk
      have h2 : m.x ≤ k.x := by
        rcases List.mem_cons.mp hk with h | h
        · rw [h]
          exact Rat.le_refl
        · have := List.rel_of_pairwise_cons (List.pairwise_cons.mp hp).2 h
          grind
      simp
      grind
    rw [this]
    rfl
  · rename_i hq
    have hm : m ∈ (m :: rest).filter (fun n => !decide (q < n.x)) := List.mem_filter.mpr ⟨List.mem_cons_self, by simp; grind⟩
    unfold nearN
    cases hz : (m :: rest).filter (fun n => !decide (q < n.x)) with
    | nil =>
      rw [hz] at hm
      simp at hm
    | cons a b => rw [List.getLast?_cons_cons]
theorem J_loc : ∀ {ns : List Nd} {n0 : Nd} {r0 : List Nd} {p q : Rat}, ns = n0 :: r0 → ns.Pairwise (fun a b => a.x < b.x) → n0.x ≤ p → p ≤ q → Free2 ns p q → ∃ n, nearN ns p = some n ∧ segN n p q = Jr ns q - Jr ns p
  | [n], _, _, p, q, e, hp, h0, hpq, hf => by
    cases e
    refine ⟨n, ?_, segN_quad n p q⟩
    have := near_app (P := []) (n := n) (q := p)
    rw [if_neg (by grind)] at this
    exact this
  | n :: m :: rest, _, _, p, q, e, hp, h0, hpq, hf => by
    cases e
    rw [near_cons hp h0]
    have hfm := hf m (by simp)
    by_cases hpm : p < m.x
    · rw [if_pos hpm]
      have hqm : q ≤ m.x := by grind
      refine ⟨n, rfl, ?_⟩
      unfold Jr
      rw [if_pos hqm, if_pos (by grind)]
      exact segN_quad n p q
    · rw [if_neg hpm]
      obtain ⟨k, h1, h2⟩ := J_loc (ns := m :: rest) rfl (List.pairwise_cons.mp hp).2 (by grind) hpq (fun z hz => hf z (List.mem_cons_of_mem _ hz))
      refine ⟨k, h1, ?_⟩
      have ej : ∀ z, m.x ≤ z → Jr (n :: m :: rest) z = quad n m.x + Jr (m :: rest) z := fun z hz => by
        show (if z ≤ m.x then quad n z else quad n m.x + Jr (m :: rest) z) = _
        split
        · rename_i hz2
          have ez : z = m.x := by grind
          have e0 : Jr (m :: rest) m.x = 0 := by
            cases rest with
            | nil =>
              show quad m m.x = 0
              unfold quad
              grind
            | cons c d =>
              have hc := List.rel_of_pairwise_cons (List.pairwise_cons.mp hp).2 (List.mem_cons_self (a := c) (l := d))
              show (if m.x ≤ c.x then quad m m.x else _) = 0
              rw [if_pos (by grind)]
              unfold quad
              grind
          rw [ez, e0]
          grind
        · rfl
      rw [h2, ej q (by grind), ej p (by grind)]
      grind
theorem J_seg {ns : List Nd} (g : Good ns) {p q : Rat} (h0 : 0 ≤ p) (hpq : p ≤ q) (hf : Free2 ns p q) : segQ ns (p, q) = Jr ns q - Jr ns p := by
  obtain ⟨n0, r0, e, hx⟩ := g.head
  obtain ⟨n, h1, h2⟩ := J_loc e g.pw (by rw [hx]; exact h0) hpq hf
  have e2 := nr_eq g h0
  rw [h1] at e2
  have e3 := Option.some.inj e2
  show segN (nr ns p) p q = _
  rw [← e3]
  exact h2
/-! ### areas -/
theorem tele {f : Rat × Rat → Rat} {J : Rat → Rat} : ∀ {L : List Rat} {a b t : Rat}, (∀ p ∈ (a :: L).zip (L ++ [b]), f p = J p.2 - J p.1) → ((a :: L).zip (L ++ [b])).foldl (fun t p => t + f p) t = t + (J b - J a)
  | [], a, b, t, h => by
    have := h (a, b) (by simp)
    show t + f (a, b) = _
    rw [this]
  | l :: L, a, b, t, h => by
    have h1 := h (a, l) (by simp)
    have h2 := tele (L := L) (a := l) (b := b) (t := t + f (a, l)) fun p hp => h p (List.mem_cons_of_mem _ hp)
    show ((l :: L).zip (L ++ [b])).foldl (fun t p => t + f p) (t + f (a, l)) = _
    rw [h2, h1]
    grind
theorem tele_ge {f : Rat × Rat → Rat} {J : Rat → Rat} : ∀ {L : List Rat} {a b t : Rat}, (∀ p ∈ (a :: L).zip (L ++ [b]), J p.2 - J p.1 ≤ f p) → t + (J b - J a) ≤ ((a :: L).zip (L ++ [b])).foldl (fun t p => t + f p) t
  | [], a, b, t, h => by
    have := h (a, b) (by simp)
    show _ ≤ t + f (a, b)
    grind
  | l :: L, a, b, t, h => by
    have h1 := h (a, l) (by simp)
    have h2 := tele_ge (L := L) (a := l) (b := b) (t := t + f (a, l)) fun p hp => h p (List.mem_cons_of_mem _ hp)
    show _ ≤ ((l :: L).zip (L ++ [b])).foldl (fun t p => t + f p) (t + f (a, l))
    simp only at h1
    grind
theorem grid_free {ns : List Nd} : ∀ {L : List Rat} {a b : Rat}, a < b → L.Pairwise (· < ·) → (∀ x ∈ L, a < x ∧ x < b) → (∀ n ∈ ns, a < n.x → n.x < b → n.x ∈ L) → ∀ p ∈ (a :: L).zip (L ++ [b]), a ≤ p.1 ∧ p.1 < p.2 ∧ p.2 ≤ b ∧ Free2 ns p.1 p.2
  | [], a, b, hab, _, _, hn, p, hp => by
    have e : p = (a, b) := by simpa using hp
    subst e
    exact ⟨Rat.le_refl, hab, Rat.le_refl, fun n hm h => by have := hn n hm h.1 h.2; simp at this⟩
  | l :: L, a, b, hab, hs, hin, hn, p, hp => by
    obtain ⟨s1, s2⟩ := List.pairwise_cons.mp hs
    have hl := hin l List.mem_cons_self
    have hp' : p = (a, l) ∨ p ∈ (l :: L).zip (L ++ [b]) := by
      have : (a :: l :: L).zip (l :: L ++ [b]) = (a, l) :: (l :: L).zip (L ++ [b]) := rfl
      rw [this] at hp
      exact List.mem_cons.mp hp
    rcases hp' with e | hp'
    · subst e
      refine ⟨Rat.le_refl, hl.1, by simp only; grind, fun n hm h => ?_⟩
      simp only at h
      have := hn n hm h.1 (by grind)
      rcases List.mem_cons.mp this with e | e
      · grind
      · have := s1 _ e
        grind
    · obtain ⟨h1, h2, h3, h4⟩ := grid_free (ns := ns) (L := L) (a := l) (b := b) hl.2 s2 (fun x hx => ⟨s1 x hx, (hin x (List.mem_cons_of_mem _ hx)).2⟩) (fun n hm ha hb => by
        rcases List.mem_cons.mp (hn n hm (by grind) hb) with e | e
        · grind
        · exact e) p hp'
      exact ⟨by grind, h2, h3, h4⟩
theorem insQ_grid {ns : List Nd} (g : Good ns) {a b : Rat} (hab : a < b) : ∀ p ∈ gridQ ns a b, a ≤ p.1 ∧ p.1 < p.2 ∧ p.2 ≤ b ∧ Free2 ns p.1 p.2 := by
  refine grid_free hab ?_ (fun x hx => ?_) fun n hm h1 h2 => ?_
  · unfold insQ
    rw [List.pairwise_map]
    exact g.pw.filter _
  · obtain ⟨n, hn, rfl⟩ := List.mem_map.mp hx
    have := (List.mem_filter.mp hn).2
    simpa using this
  · exact List.mem_map.mpr ⟨n, List.mem_filter.mpr ⟨hm, by simp [h1, h2]⟩, rfl⟩
theorem area_eq {ns : List Nd} (g : Good ns) {J : Rat → Rat} {a b : Rat} (h0 : 0 ≤ a) (hab : a < b) (h : ∀ p q, 0 ≤ p → p < q → Free2 ns p q → segQ ns (p, q) = J q - J p) : areaQ ns a b = J b - J a := by
  have hg := insQ_grid g hab
  unfold areaQ
  have := tele (f := segQ ns) (J := J) (L := insQ ns a b) (a := a) (b := b) (t := 0) fun p hp => by
    obtain ⟨h1, h2, h3, h4⟩ := hg p hp
    exact h p.1 p.2 (by grind) h2 h4
  unfold gridQ
  rw [this]
  grind
theorem area_ge {ns : List Nd} (g : Good ns) {J : Rat → Rat} {a b : Rat} (h0 : 0 ≤ a) (hab : a < b) (h : ∀ p q, 0 ≤ p → p < q → Free2 ns p q → J q - J p ≤ segQ ns (p, q)) : J b - J a ≤ areaQ ns a b := by
  have hg := insQ_grid g hab
  unfold areaQ
  have := tele_ge (f := segQ ns) (J := J) (L := insQ ns a b) (a := a) (b := b) (t := 0) fun p hp => by
    obtain ⟨h1, h2, h3, h4⟩ := hg p hp
    exact h p.1 p.2 (by grind) h2 h4
  unfold gridQ
  grind
theorem area_J {ns : List Nd} (g : Good ns) {a b : Rat} (h0 : 0 ≤ a) (hab : a < b) : areaQ ns a b = Jr ns b - Jr ns a := area_eq g h0 hab fun p q h1 h2 h3 => J_seg g h1 (by grind) h3
theorem seg_prune {ns : List Nd} (g : Good ns) {p q : Rat} (h0 : 0 ≤ p) : segQ (prune ns) (p, q) = segQ ns (p, q) := by
  obtain ⟨_, h2, h3⟩ := prune_same g h0
  unfold segQ
  simp only [h2, h3]
theorem Free2.prune {ns : List Nd} {p q : Rat} (h : Free2 ns p q) : Free2 (prune ns) p q := fun n hn => h n (prune_sub.mem hn)
theorem area_prune {ns : List Nd} (g : Good ns) {a b : Rat} (h0 : 0 ≤ a) (hab : a < b) : areaQ (prune ns) a b = areaQ ns a b := by
  rw [area_J g.prune h0 hab, area_eq g (J := Jr (prune ns)) h0 hab fun p q h1 h2 h3 => by rw [← seg_prune g h1]; exact J_seg g.prune h1 (by grind) h3.prune]
theorem pm_prune {ns : List Nd} (g : Good ns) {a b : Rat} (h0 : 0 ≤ a) (hab : a ≤ b) : pmQ (prune ns) a b = pmQ ns a b := by
  unfold pmQ
  split
  · exact (prune_same g h0).1
  · rw [area_prune g h0 (by grind)]
theorem fold_congr {α : Type} {f g : α → Rat} : ∀ {ps : List α} {t : Rat}, (∀ p ∈ ps, f p = g p) → ps.foldl (fun t p => t + f p) t = ps.foldl (fun t p => t + g p) t
  | [], _, _ => rfl
  | p :: ps, t, h => by
    rw [List.foldl_cons, List.foldl_cons, h p List.mem_cons_self]
    exact fold_congr fun q hq => h q (List.mem_cons_of_mem _ hq)
theorem tot_congr {ns ms : List Nd} {ps : List Pt} {t : Rat} (h : ∀ p ∈ ps, pmQ ns p.l p.h = pmQ ms p.l p.h) : ps.foldl (fun t p => t + (p.c : Rat) * pmQ ns p.l p.h) t = ps.foldl (fun t p => t + (p.c : Rat) * pmQ ms p.l p.h) t :=
  fold_congr (f := fun p : Pt => (p.c : Rat) * pmQ ns p.l p.h) (g := fun p : Pt => (p.c : Rat) * pmQ ms p.l p.h) fun p hp => by
    show (p.c : Rat) * pmQ ns p.l p.h = (p.c : Rat) * pmQ ms p.l p.h
    rw [h p hp]
theorem mean_prune {ns : List Nd} (g : Good ns) {ps : List Pt} (gp : GoodPs ps) : meanQ (prune ns) ps = meanQ ns ps := by
  unfold meanQ totQ
  rw [tot_congr fun p hp => pm_prune g (gp.ok p hp).l0 (gp.ok p hp).lh]
end G
end MA2
section MA3
set_option Elab.async false
set_option linter.all false
set_option maxRecDepth 100000
set_option maxHeartbeats 4000000
namespace G
/-! ### totals -/
theorem fold_add {α : Type} {f : α → Rat} : ∀ {ps : List α} {t u : Rat}, ps.foldl (fun t p => t + f p) (t + u) = ps.foldl (fun t p => t + f p) t + u
  | [], _, _ => rfl
  | p :: ps, t, u => by
    rw [List.foldl_cons, List.foldl_cons, show t + u + f p = t + f p + u by grind]
    exact fold_add
theorem fold_lin2 {α : Type} {f g h : α → Rat} {x y : Rat} : ∀ {ps : List α} {t u : Rat}, (∀ p ∈ ps, f p = x * g p + y * h p) → ps.foldl (fun t p => t + f p) (x * t + y * u) = x * ps.foldl (fun t p => t + g p) t + y * ps.foldl (fun t p => t + h p) u
  | [], _, _, _ => rfl
  | p :: ps, t, u, hh => by
    rw [List.foldl_cons, List.foldl_cons, List.foldl_cons, hh p List.mem_cons_self, show x * t + y * u + (x * g p + y * h p) = x * (t + g p) + y * (u + h p) by grind]
    exact fold_lin2 fun q hq => hh q (List.mem_cons_of_mem _ hq)
theorem mean_lin {ns as bs : List Nd} {ps : List Pt} {x y : Rat} (h : ∀ p ∈ ps, pmQ ns p.l p.h = x * pmQ as p.l p.h + y * pmQ bs p.l p.h) : meanQ ns ps = x * meanQ as ps + y * meanQ bs ps := by
  have e : totQ ns ps = x * totQ as ps + y * totQ bs ps := by
    unfold totQ
    have := fold_lin2 (f := fun p : Pt => (p.c : Rat) * pmQ ns p.l p.h) (g := fun p => (p.c : Rat) * pmQ as p.l p.h) (h := fun p => (p.c : Rat) * pmQ bs p.l p.h) (x := x) (y := y) (ps := ps) (t := 0) (u := 0) fun p hp => by
      rw [h p hp]
      grind
    rw [show x * 0 + y * 0 = (0 : Rat) by grind] at this
    exact this
  unfold meanQ
  rw [e]
  grind
theorem fold_ge {α : Type} {f g : α → Rat} : ∀ {ps : List α} {t u : Rat}, u ≤ t → (∀ p ∈ ps, g p ≤ f p) → ps.foldl (fun t p => t + g p) u ≤ ps.foldl (fun t p => t + f p) t
  | [], _, _, h, _ => h
  | p :: ps, t, u, h, hh => by
    rw [List.foldl_cons, List.foldl_cons]
    exact fold_ge (by have := hh p List.mem_cons_self; grind) fun q hq => hh q (List.mem_cons_of_mem _ hq)
theorem cast_le {i j : Int} (h : i ≤ j) : (i : Rat) ≤ (j : Rat) := Rat.intCast_le_intCast.mpr h
theorem hous_pos {ps : List Pt} (gp : GoodPs ps) : (0 : Rat) < (housQ ps : Rat) := by
  have h1 := cast_le (hous_ok gp).1
  have : ((1 : Int) : Rat) = 1 := rfl
  rw [this] at h1
  grind
theorem mean_ge {ns ms : List Nd} {ps : List Pt} (gp : GoodPs ps) (h : ∀ p ∈ ps, pmQ ms p.l p.h ≤ pmQ ns p.l p.h) : meanQ ms ps ≤ meanQ ns ps := by
  have e : totQ ms ps ≤ totQ ns ps := by
    unfold totQ
    refine fold_ge Rat.le_refl fun p hp => ?_
    have h1 := cast_le (gp.ok p hp).c1
    have h2 : ((1 : Int) : Rat) = 1 := rfl
    rw [h2] at h1
    exact Rat.mul_le_mul_of_nonneg_left (h p hp) (by grind)
  unfold meanQ
  have hp := hous_pos gp
  rw [Rat.div_def, Rat.div_def]
  exact Rat.mul_le_mul_of_nonneg_right e (Rat.le_of_lt (Rat.inv_pos.mpr hp))
/-! ### counts, order -/
theorem hous_trip (ps : List Pt) : housQ (ps.map tripP) = 3 * housQ ps := by
  unfold housQ
  induction ps with
  | nil => rfl
  | cons p ps ih =>
    simp only [List.map_cons, List.sum_cons] at ih ⊢
    rw [ih]
    show 3 * p.c + _ = _
    omega
theorem tot_trip (ns : List Nd) : ∀ {ps : List Pt} {t : Rat}, (ps.map tripP).foldl (fun t p => t + (p.c : Rat) * pmQ ns p.l p.h) (3 * t) = 3 * ps.foldl (fun t p => t + (p.c : Rat) * pmQ ns p.l p.h) t
  | [], _ => rfl
  | p :: ps, t => by
    rw [List.map_cons, List.foldl_cons, List.foldl_cons]
    have : 3 * t + ((tripP p).c : Rat) * pmQ ns (tripP p).l (tripP p).h = 3 * (t + (p.c : Rat) * pmQ ns p.l p.h) := by
      show 3 * t + ((3 * p.c : Int) : Rat) * pmQ ns p.l p.h = _
      rw [Rat.intCast_mul]
      have : ((3 : Int) : Rat) = 3 := rfl
      rw [this]
      grind
    rw [this]
    exact tot_trip ns
theorem mean_trip {ns : List Nd} {ps : List Pt} (gp : GoodPs ps) : meanQ ns (ps.map tripP) = meanQ ns ps := by
  unfold meanQ totQ
  have h := tot_trip ns (ps := ps) (t := 0)
  rw [show (3 : Rat) * 0 = 0 by grind] at h
  rw [h, hous_trip, Rat.intCast_mul]
  have h3 : ((3 : Int) : Rat) = 3 := rfl
  have hp := hous_pos gp
  rw [h3]
  have hne : (housQ ps : Rat) ≠ 0 := by grind
  grind
theorem tot_rev (ns : List Nd) {ps : List Pt} : totQ ns ps.reverse = totQ ns ps := by
  unfold totQ
  induction ps with
  | nil => rfl
  | cons p ps ih =>
    rw [List.reverse_cons, List.foldl_append, ih]
    have := fold_add (f := fun p : Pt => (p.c : Rat) * pmQ ns p.l p.h) (ps := ps) (t := 0) (u := (p.c : Rat) * pmQ ns p.l p.h)
    rw [List.foldl_cons]
    exact this.symm
theorem mean_rev {ns : List Nd} {ps : List Pt} : meanQ ns ps.reverse = meanQ ns ps := by
  unfold meanQ
  rw [tot_rev]
  unfold housQ
  rw [List.map_reverse, List.sum_reverse]
theorem mean_one {ns : List Nd} {c : Int} {l h : Rat} (hc : c ≠ 0) : meanQ ns [⟨c, l, h⟩] = pmQ ns l h := by
  have hr : (c : Rat) ≠ 0 := fun z => hc (Rat.intCast_inj.mp z)
  have e : housQ [⟨c, l, h⟩] = c := by
    unfold housQ
    simp
  unfold meanQ totQ
  rw [e]
  show (0 + (c : Rat) * pmQ ns l h) / (c : Rat) = _
  grind
theorem pm_J {ns : List Nd} (g : Good ns) {a b : Rat} (h0 : 0 ≤ a) (hab : a < b) : pmQ ns a b * (b - a) * 2 = Jr ns b - Jr ns a := by
  unfold pmQ
  rw [if_neg (by grind), area_J g h0 hab]
  have : b - a ≠ 0 := by grind
  grind
/-! ### the cut -/
theorem cut_law1 {cs : List Nd} (g : Good cs) {l c h w : Rat} (h0 : 0 ≤ l) (hlc : l < c) (hch : c < h) (hw : h - l = w) : meanQ cs [⟨4, l, h⟩] * w = meanQ cs [⟨1, l, c⟩] * (c - l) + meanQ cs [⟨1, c, h⟩] * (h - c) := by
  rw [mean_one (by decide), mean_one (by decide), mean_one (by decide)]
  have e1 := pm_J g h0 (show l < h by grind)
  have e2 := pm_J g h0 hlc
  have e3 := pm_J g (show 0 ≤ c by grind) hch
  rw [hw] at e1
  grind
theorem cut_law2 {ns : List Nd} (g : Good ns) {a b : Rat} (h0 : 0 ≤ a) (hab : a < b) (hf : Free2 ns a b) : meanQ (prune ns) [⟨2, a, b⟩] = val (nr (prune ns) ((a + b) * q12)) ((a + b) * q12) := by
  have eq : q12 = 1 / 2 := by decide +kernel
  have hm1 : a < (a + b) * q12 := by rw [eq]; grind
  have hm2 : (a + b) * q12 < b := by rw [eq]; grind
  have hm0 : 0 ≤ (a + b) * q12 := by grind
  rw [mean_one (by decide), pm_prune g h0 (by grind), (prune_same g hm0).1]
  have e1 := pm_J g h0 hab
  rw [← J_seg g h0 (by grind) hf] at e1
  have en : nr ns ((a + b) * q12) = nr ns a := nr_same g h0 (by grind) fun n hn hq => by
    have := hf n hn
    grind
  have hle := nr_le g h0
  rw [en]
  unfold val
  rw [if_neg (by grind)]
  have e2 : segQ ns (a, b) = (b - a) * (reach (nr ns a) a + (reach (nr ns a) a + (nr ns a).r * (b - a))) := rfl
  rw [e2] at e1
  have e3 : reach (nr ns a) ((a + b) * q12) * 2 = reach (nr ns a) a + (reach (nr ns a) a + (nr ns a).r * (b - a)) := by
    unfold reach
    rw [eq]
    grind
  have hne : b - a ≠ 0 := by grind
  have e4 : (pmQ ns a b * 2 - (reach (nr ns a) a + (reach (nr ns a) a + (nr ns a).r * (b - a)))) * (b - a) = 0 := by grind
  rcases Rat.mul_eq_zero.mp e4 with h | h
  · grind
  · exact absurd h hne
end G
end MA3
section MA4
set_option Elab.async false
set_option linter.all false
set_option maxRecDepth 100000
set_option maxHeartbeats 4000000
namespace G
/-! ### the incomes of two curves -/
theorem sorted_cut : ∀ {F : List Rat} {q : Rat}, F.Pairwise (· < ·) → (∀ x ∈ F.take (F.filter fun z => decide (z < q)).length, x < q) ∧ (∀ x ∈ F.drop (F.filter fun z => decide (z < q)).length, ¬ x < q)
  | [], q, _ => ⟨fun x hx => by simp at hx, fun x hx => by simp at hx⟩
  | a :: F, q, hs => by
    obtain ⟨s1, s2⟩ := List.pairwise_cons.mp hs
    by_cases h : a < q
    · have e : ((a :: F).filter fun z => decide (z < q)) = a :: F.filter fun z => decide (z < q) := List.filter_cons_of_pos (by simp [h])
      obtain ⟨h1, h2⟩ := sorted_cut (q := q) s2
      rw [e, List.length_cons, List.take_succ_cons, List.drop_succ_cons]
      refine ⟨fun x hx => ?_, h2⟩
      rcases List.mem_cons.mp hx with rfl | hx
      · exact h
      · exact h1 x hx
    · have e : ((a :: F).filter fun z => decide (z < q)) = [] := by
        rw [List.filter_eq_nil_iff]
        intro x hx
        rcases List.mem_cons.mp hx with rfl | hx
        · simpa using h
        · have := s1 x hx
          simp
          grind
      rw [e]
      refine ⟨fun x hx => by simp at hx, fun x hx => ?_⟩
      rcases List.mem_cons.mp hx with rfl | hx
      · exact h
      · have := s1 x hx
        grind
theorem ascS_sorted {F : List Rat} {q : Rat} (hs : F.Pairwise (· < ·)) : (ascS F q).Pairwise (· < ·) := by
  unfold ascS
  split
  · exact hs
  · rename_i hq
    obtain ⟨h1, h2⟩ := sorted_cut (q := q) hs
    generalize (F.filter fun z => decide (z < q)).length = k at *
    have hF : F.take k ++ F.drop k = F := List.take_append_drop k F
    have hs2 : (F.take k ++ F.drop k).Pairwise (· < ·) := by rw [hF]; exact hs
    obtain ⟨p1, p2, p3⟩ := List.pairwise_append.mp hs2
    have h2' : ∀ x ∈ F.drop k, q < x := fun x hx => by
      have a := h2 x hx
      have b : x ≠ q := fun e => hq (by rw [← e]; exact List.mem_of_mem_drop hx)
      grind
    rw [List.append_assoc]
    refine List.pairwise_append.mpr ⟨p1, List.pairwise_append.mpr ⟨List.pairwise_singleton _ _, p2, fun a ha b hb => by rw [List.mem_singleton.mp ha]; exact h2' b hb⟩, fun a ha b hb => ?_⟩
    rcases List.mem_append.mp hb with h | h
    · rw [List.mem_singleton.mp h]
      exact h1 a ha
    · exact p3 a ha b h
theorem ascS_has {F : List Rat} {q : Rat} : q ∈ ascS F q ∧ ∀ x ∈ F, x ∈ ascS F q := by
  unfold ascS
  split
  · rename_i h
    exact ⟨h, fun _ h => h⟩
  · refine ⟨by simp, fun x hx => ?_⟩
    generalize (F.filter fun z => decide (z < q)).length = k at *
    have hF : F.take k ++ F.drop k = F := List.take_append_drop k F
    rw [← hF] at hx
    rcases List.mem_append.mp hx with h | h
    · exact List.mem_append_left _ (List.mem_append_left _ h)
    · exact List.mem_append_right _ h
theorem ascF_sorted : ∀ {qs F : List Rat}, F.Pairwise (· < ·) → (qs.foldl ascS F).Pairwise (· < ·)
  | [], _, h => h
  | q :: qs, F, h => ascF_sorted (qs := qs) (ascS_sorted h)
theorem ascF_has : ∀ {qs F : List Rat} {x : Rat}, x ∈ F ∨ x ∈ qs → x ∈ qs.foldl ascS F
  | [], F, x, h => h.elim id fun h => by simp at h
  | q :: qs, F, x, h => by
    rw [List.foldl_cons]
    refine ascF_has (qs := qs) ?_
    rcases h with h | h
    · exact .inl (ascS_has.2 x h)
    · rcases List.mem_cons.mp h with rfl | h
      · exact .inl ascS_has.1
      · exact .inr h
theorem allX_sorted (ns ms : List Nd) : (allX ns ms).Pairwise (· < ·) := ascF_sorted List.Pairwise.nil
theorem allX_has {ns ms : List Nd} {n : Nd} (h : n ∈ ns ∨ n ∈ ms) : n.x ∈ allX ns ms := ascF_has (.inr (List.mem_map.mpr ⟨n, List.mem_append.mpr h, rfl⟩))
/-- narrow nodes: the nets of what the law draws -/
structure NB (D1 M1 D2 M2 D3 M3 : Nat) (n : Nd) : Prop where
  x : Lat 6 50 n.x
  v : Lat D1 M1 n.v
  s : Lat D2 M2 n.s
  r : Lat D3 M3 n.r
theorem few_nodes {f : Fd} (h : okF f) : Few6 (prune (fewNs f)) ∧ ∀ n ∈ prune (fewNs f), NB 12 (2 ^ 105) 12 10020 2 4 n := by
  have I := few_FI h
  have hn := fewN_ok h
  have nb : ∀ n ∈ fewNs f, NB 12 (2 ^ 105) 12 10020 2 4 n := fun n hm => by
    obtain ⟨h1, h2, h3, h4, _⟩ := I.nx n hm
    exact ⟨h1.mono (by omega), h2, h3.mono (by omega), h4⟩
  have g : Good (fewNs f) := by
    have hlen : (fewNs f).length = fewN f 4 := I.len
    refine ⟨by omega, I.la4 (by omega), I.hd ?_, I.pw⟩
    intro e
    have : (fewNs f).length = 0 := by
      show (fewI (takeF f 4) (fewN f 4)).F.length = 0
      rw [e]
      rfl
    omega
  refine ⟨⟨g.prune, ?_, fun n hm => (nb n (prune_sub.mem hm)).x⟩, fun n hm => nb n (prune_sub.mem hm)⟩
  have := prune_sub (ns := fewNs f) |>.length_le
  have hlen : (fewNs f).length = fewN f 4 := I.len
  omega
end G
end MA4
section MA5
set_option Elab.async false
set_option linter.all false
set_option maxRecDepth 100000
set_option maxHeartbeats 4000000
namespace G
abbrev NF (n : Nd) : Prop := NB 12 (2 ^ 105) 12 10020 2 4 n
/-- a curve of the law's own making -/
structure Fit (a : List Nd) : Prop where
  g : Good a
  l5 : a.length ≤ 5
  nb : ∀ n ∈ a, NF n
theorem Fit.prune {a : List Nd} (f : Fit a) : Fit (prune a) := ⟨f.g.prune, Nat.le_trans prune_sub.length_le f.l5, fun n hn => f.nb n (prune_sub.mem hn)⟩
theorem reach_nf {n : Nd} {q : Rat} (h : NF n) (hq : Lat 6 50 q) : Lat 12 10420 (reach n q) := (h.s.add (h.r.mul (hq.sub h.x))).mono (by decide)
theorem val_nf {n : Nd} {q : Rat} (h : NF n) (hq : Lat 6 50 q) : Lat 12 (2 ^ 105) (val n q) := by
  unfold val
  split
  · exact h.v
  · exact (reach_nf h hq).mono (by decide)
theorem allX_lat {a b : List Nd} (fa : Fit a) (fb : Fit b) {q : Rat} (h : q ∈ allX a b) : Lat 6 50 q := by
  obtain ⟨n, hn, rfl⟩ := allX_mem h
  rcases hn with h | h
  · exact (fa.nb n h).x
  · exact (fb.nb n h).x
theorem allX_len10 {a b : List Nd} (fa : Fit a) (fb : Fit b) : (allX a b).length ≤ 10 := by
  have := ascF_len (qs := (a ++ b).map Nd.x) (F := [])
  rw [List.length_map, List.length_append, List.length_nil, Nat.zero_add] at this
  unfold allX ascL
  have := fa.l5
  have := fb.l5
  omega
theorem allX_head {a b : List Nd} (ga : Good a) (gb : Good b) : ∃ r, allX a b = 0 :: r := by
  obtain ⟨n, r, e, hx⟩ := ga.head
  have h0 : (0 : Rat) ∈ allX a b := by
    rw [← hx]
    exact allX_has (.inl (by rw [e]; exact List.mem_cons_self))
  have hs := allX_sorted a b
  cases hX : allX a b with
  | nil =>
    rw [hX] at h0
    simp at h0
  | cons q r =>
    rw [hX] at h0 hs
    have hq := (allX_ok ga gb (q := q) (by rw [hX]; exact List.mem_cons_self)).2
    rcases List.mem_cons.mp h0 with e | h
    · exact ⟨r, by rw [e]⟩
    · have := List.rel_of_pairwise_cons hs h
      grind
theorem sum_good {a b : List Nd} (fa : Fit a) (fb : Fit b) : Good (sumNs a b) := by
  refine ⟨?_, fun n hn => ?_, ?_, ?_⟩
  · unfold sumNs
    rw [List.length_map]
    have := allX_len10 fa fb
    omega
  · obtain ⟨q, hq, rfl⟩ := List.mem_map.mp hn
    have h6 := allX_lat fa fb hq
    have h0 := (allX_ok fa.g fb.g hq).2
    have na := fa.nb _ (nr_mem fa.g h0)
    have nb := fb.nb _ (nr_mem fb.g h0)
    exact ⟨h6.up 8648640 M0 (by decide), ((val_nf na h6).add (val_nf nb h6)).up 4324320 M0 (by decide), ((reach_nf na h6).add (reach_nf nb h6)).up 4324320 M0 (by decide), (na.r.add nb.r).up 25945920 M0 (by decide)⟩
  · obtain ⟨r, e⟩ := allX_head fa.g fb.g
    exact ⟨sumN a b 0, r.map (sumN a b), by unfold sumNs; rw [e]; rfl, rfl⟩
  · unfold sumNs
    rw [List.pairwise_map]
    exact allX_sorted a b
/-- the grid's place in force: no node of either lies behind it -/
theorem grid_nr {a b ns : List Nd} (ga : Good a) (gb : Good b) (gs : Good ns) (hh : ∀ n, (n ∈ a ∨ n ∈ b) → ∃ m ∈ ns, m.x = n.x) {q : Rat} (h0 : 0 ≤ q) : nr a q = nr a (nr ns q).x ∧ nr b q = nr b (nr ns q).x := by
  have hx0 := gs.nonneg (nr_mem gs h0)
  have hxq := nr_le gs h0
  refine ⟨nr_same ga hx0 hxq fun n hn hq => ?_, nr_same gb hx0 hxq fun n hn hq => ?_⟩
  · obtain ⟨m, hm, e⟩ := hh n (.inl hn)
    rw [← e] at hq ⊢
    exact nr_max gs h0 hm hq
  · obtain ⟨m, hm, e⟩ := hh n (.inr hn)
    rw [← e] at hq ⊢
    exact nr_max gs h0 hm hq
theorem sum_has {a b : List Nd} {n : Nd} (h : n ∈ a ∨ n ∈ b) : ∃ m ∈ sumNs a b, m.x = n.x := ⟨sumN a b n.x, List.mem_map.mpr ⟨n.x, allX_has h, rfl⟩, rfl⟩
theorem sum_sem {a b : List Nd} (ga : Good a) (gb : Good b) (gs : Good (sumNs a b)) {q : Rat} (h0 : 0 ≤ q) : val (nr (sumNs a b) q) q = val (nr a q) q + val (nr b q) q ∧ reach (nr (sumNs a b) q) q = reach (nr a q) q + reach (nr b q) q ∧ (nr (sumNs a b) q).r = (nr a q).r + (nr b q).r := by
  obtain ⟨e1, e2⟩ := grid_nr ga gb gs (fun n h => sum_has h) h0
  obtain ⟨x, hx, hN⟩ := List.mem_map.mp (nr_mem gs h0)
  change sumN a b x = nr (sumNs a b) q at hN
  have hxq := nr_le gs h0
  rw [← hN] at e1 e2 hxq ⊢
  change nr a q = nr a x at e1
  change nr b q = nr b x at e2
  change x ≤ q at hxq
  have hx0 := (allX_ok ga gb hx).2
  have la := nr_le ga hx0
  have lb := nr_le gb hx0
  rw [e1, e2]
  have hr : reach (sumN a b x) q = reach (nr a x) q + reach (nr b x) q := by
    unfold reach sumN
    simp only
    unfold reach
    grind
  refine ⟨?_, hr, rfl⟩
  unfold val
  by_cases h : x = q
  · have h2 : (sumN a b x).x = q := h
    rw [if_pos h2]
    subst h
    rfl
  · have h2 : ¬ (sumN a b x).x = q := h
    rw [if_neg h2, if_neg (by grind), if_neg (by grind)]
    exact hr
theorem sum_pm {a b : List Nd} (ga : Good a) (gb : Good b) (gs : Good (sumNs a b)) {l h : Rat} (h0 : 0 ≤ l) (hlh : l ≤ h) : pmQ (prune (sumNs a b)) l h = pmQ a l h + pmQ b l h := by
  rw [pm_prune gs h0 hlh]
  unfold pmQ
  by_cases e : l = h
  · rw [if_pos e, if_pos e, if_pos e]
    exact (sum_sem ga gb gs h0).1
  · rw [if_neg e, if_neg e, if_neg e]
    have hlt : l < h := by grind
    have := area_eq gs (J := fun q => Jr a q + Jr b q) h0 hlt fun p q hp hpq hf => by
      have fa : Free2 a p q := fun n hn => by
        obtain ⟨m, hm, e⟩ := sum_has (a := a) (b := b) (.inl hn)
        have := hf m hm
        rw [e] at this
        exact this
      have fb : Free2 b p q := fun n hn => by
        obtain ⟨m, hm, e⟩ := sum_has (a := a) (b := b) (.inr hn)
        have := hf m hm
        rw [e] at this
        exact this
      have ea := J_seg ga hp (by grind) fa
      have eb := J_seg gb hp (by grind) fb
      obtain ⟨_, s2, s3⟩ := sum_sem ga gb gs hp
      have : segQ (sumNs a b) (p, q) = segQ a (p, q) + segQ b (p, q) := by
        unfold segQ
        simp only [s2, s3]
        grind
      rw [this, ea, eb]
      grind
    rw [this, area_J ga h0 hlt, area_J gb h0 hlt]
    grind
/-! ### scaled -/
theorem sc_nr {a : List Nd} {k : Rat} (ga : Good a) (gk : Good (a.map (scN k))) {q : Rat} (h0 : 0 ≤ q) : nr (a.map (scN k)) q = scN k (nr a q) := by
  refine nr_uniq gk h0 (List.mem_map.mpr ⟨_, nr_mem ga h0, rfl⟩) (nr_le ga h0) fun m hm hq => ?_
  obtain ⟨n, hn, rfl⟩ := List.mem_map.mp hm
  exact nr_max (m := n) ga h0 hn hq
theorem sc_pm {a : List Nd} {k : Rat} (ga : Good a) (gk : Good (a.map (scN k))) {l h : Rat} (h0 : 0 ≤ l) (hlh : l ≤ h) : pmQ (prune (a.map (scN k))) l h = k * pmQ a l h := by
  rw [pm_prune gk h0 hlh]
  have rs : ∀ (n : Nd) q, reach (scN k n) q = k * reach n q := fun n q => by
    unfold reach scN
    simp only
    grind
  unfold pmQ
  by_cases e : l = h
  · rw [if_pos e, if_pos e, sc_nr ga gk h0]
    unfold val
    rw [rs]
    show (if (nr a l).x = l then (nr a l).v * k else _) = _
    split <;> grind
  · rw [if_neg e, if_neg e]
    have hlt : l < h := by grind
    have := area_eq gk (J := fun q => k * Jr a q) h0 hlt fun p q hp hpq hf => by
      have fa : Free2 a p q := fun n hn => hf (scN k n) (List.mem_map.mpr ⟨n, hn, rfl⟩)
      have ea := J_seg ga hp (by grind) fa
      have : segQ (a.map (scN k)) (p, q) = k * segQ a (p, q) := by
        unfold segQ
        simp only [sc_nr ga gk hp, rs]
        show _ * (_ + (_ + (nr a p).r * k * _)) = _
        grind
      rw [this, ea]
      grind
    rw [this, area_J ga h0 hlt]
    grind
theorem sc_good {a : List Nd} {k : Rat} (fa : Fit a) (hk : Lat 6 20 k) : Good (a.map (scN k)) := by
  refine ⟨by rw [List.length_map]; have := fa.l5; omega, fun n hn => ?_, ?_, by rw [List.pairwise_map]; exact fa.g.pw⟩
  · obtain ⟨m, hm, rfl⟩ := List.mem_map.mp hn
    have nb := fa.nb m hm
    exact ⟨nb.x.up 8648640 M0 (by decide), (nb.v.mul hk).up 720720 M0 (by decide), (nb.s.mul hk).up 720720 M0 (by decide), (nb.r.mul hk).up 4324320 M0 (by decide)⟩
  · obtain ⟨n, r, e, hx⟩ := fa.g.head
    exact ⟨scN k n, r.map (scN k), by rw [e]; rfl, hx⟩
theorem neg_fit {a : List Nd} (fa : Fit a) : Fit (a.map (scN (-1))) := by
  refine ⟨sc_good fa (latI (i := -1) (M := 1) (by decide) 6 20 (by decide)), by rw [List.length_map]; exact fa.l5, fun n hn => ?_⟩
  obtain ⟨m, hm, rfl⟩ := List.mem_map.mp hn
  have nb := fa.nb m hm
  have e : ∀ q : Rat, q * -1 = -q := fun q => by grind
  refine ⟨nb.x, ?_, ?_, ?_⟩
  · show Lat _ _ (m.v * -1)
    rw [e]
    exact nb.v.neg
  · show Lat _ _ (m.s * -1)
    rw [e]
    exact nb.s.neg
  · show Lat _ _ (m.r * -1)
    rw [e]
    exact nb.r.neg
end G
end MA5
section MA6
set_option Elab.async false
set_option linter.all false
set_option maxRecDepth 100000
set_option maxHeartbeats 4000000
namespace G
/-! ### the larger curve -/
theorem div_720 (k : Int) (h0 : k ≠ 0) (h : k.natAbs ≤ 16) : ∃ j : Int, k * j = 720720 ∧ j.natAbs ≤ 720720 := by
  have hd : ∀ m : _root_.Fin 17, m.val ≠ 0 → m.val * (720720 / m.val) = 720720 := by decide
  have hm := hd ⟨k.natAbs, by omega⟩ (by simp only; omega)
  simp only at hm
  have hle : 720720 / k.natAbs ≤ 720720 := Nat.div_le_self _ _
  by_cases hp : 0 ≤ k
  · refine ⟨((720720 / k.natAbs : Nat) : Int), ?_, by rw [Int.natAbs_natCast]; exact hle⟩
    have e : k = (k.natAbs : Int) := by omega
    have := congrArg (fun z : Nat => (z : Int)) hm
    simp only [Int.natCast_mul] at this
    conv => lhs; lhs; rw [e]
    exact this
  · refine ⟨-((720720 / k.natAbs : Nat) : Int), ?_, by rw [Int.natAbs_neg, Int.natAbs_natCast]; exact hle⟩
    have e : k = -(k.natAbs : Int) := by omega
    have := congrArg (fun z : Nat => (z : Int)) hm
    simp only [Int.natCast_mul] at this
    conv => lhs; lhs; rw [e]
    rw [Int.neg_mul_neg]
    exact this
theorem way_lat {A F : Rat} {M : Nat} (hA : Lat 12 M A) (hF : Lat 2 8 F) (h0 : F ≠ 0) : Lat 4324320 (2 * M) (A / F) := by
  obtain ⟨m, e, b⟩ := hA
  obtain ⟨k, e', b'⟩ := hF
  have hk : k ≠ 0 := fun z => by
    rw [z] at e'
    have e2 : F * ((2 : Nat) : Rat) = 0 := e'
    rcases Rat.mul_eq_zero.mp e2 with h | h
    · exact h0 h
    · exact absurd h (by decide)
  obtain ⟨j, hj, bj⟩ := div_720 k hk b'
  have hjr : (k : Rat) * (j : Rat) = 720720 := by
    rw [← Rat.intCast_mul, hj]
    rfl
  have n12 : ((12 : Nat) : Rat) = 12 := rfl
  have n2 : ((2 : Nat) : Rat) = 2 := rfl
  have nD : ((4324320 : Nat) : Rat) = 4324320 := rfl
  rw [n12] at e
  rw [n2] at e'
  refine ⟨m * j, ?_, ?_⟩
  · rw [nD, Rat.intCast_mul]
    have hw : A / F * F = A := by grind
    generalize A / F = w at hw
    have h1 : w * (k : Rat) * 6 = (m : Rat) := by grind
    have h2 : w * ((k : Rat) * (j : Rat)) * 6 = (m : Rat) * (j : Rat) := by grind
    rw [hjr] at h2
    grind
  · rw [Int.natAbs_mul]
    calc m.natAbs * j.natAbs ≤ (M * 12) * 720720 := Nat.mul_le_mul b bj
      _ = 2 * M * 4324320 := by omega
theorem cross_some {q a b c d z : Rat} (h : crossQ q a b c d = some z) : a - c ≠ 0 ∧ d - b ≠ 0 ∧ 0 < (a - c) / (d - b) ∧ z = q + (a - c) / (d - b) := by
  unfold crossQ at h
  split at h
  · cases h
  · rename_i hne
    split at h
    · rename_i hp
      cases h
      exact ⟨fun e => hne (.inl e), fun e => hne (.inr e), hp, rfl⟩
    · cases h
theorem cross_of {q a b c d : Rat} (h1 : a - c ≠ 0) (h2 : d - b ≠ 0) (h3 : 0 < (a - c) / (d - b)) : crossQ q a b c d = some (q + (a - c) / (d - b)) := by
  unfold crossQ
  rw [if_neg (fun e => e.elim h1 h2), if_pos h3]
section
variable {a b : List Nd}
theorem lg_mem : ∀ {i : Nat} {N : Nd}, N ∈ lgNs a b i → ∃ j q, j < i ∧ (allX a b)[j]? = some q ∧ (N = lgA a b q ∨ ∃ c, crsQ a b q = some c ∧ inQ (allX a b) j c = true ∧ N = thN a b q c)
  | i + 1, N, h => by
    unfold lgNs at h
    rcases List.mem_append.mp h with h | h
    · obtain ⟨j, q, h1, h2⟩ := lg_mem h
      exact ⟨j, q, by omega, h2⟩
    · split at h
      · simp at h
      · rename_i q hq
        rcases List.mem_cons.mp h with h | h
        · exact ⟨i, q, Nat.lt_succ_self i, hq, .inl h⟩
        · unfold lgB at h
          split at h
          · simp at h
          · rename_i c hc
            split at h
            · rename_i hin
              exact ⟨i, q, Nat.lt_succ_self i, hq, .inr ⟨c, hc, hin, List.mem_singleton.mp h⟩⟩
            · simp at h
theorem lg_has : ∀ {i j : Nat} {q : Rat}, j < i → (allX a b)[j]? = some q → lgA a b q ∈ lgNs a b i ∧ ∀ c, crsQ a b q = some c → inQ (allX a b) j c = true → thN a b q c ∈ lgNs a b i
  | i + 1, j, q, hj, hq => by
    by_cases h : j < i
    · obtain ⟨h1, h2⟩ := lg_has h hq
      unfold lgNs
      exact ⟨List.mem_append_left _ h1, fun c e1 e2 => List.mem_append_left _ (h2 c e1 e2)⟩
    · have e : j = i := by omega
      subst e
      unfold lgNs
      rw [hq]
      refine ⟨List.mem_append_right _ List.mem_cons_self, fun c e1 e2 => List.mem_append_right _ (List.mem_cons_of_mem _ ?_)⟩
      unfold lgB
      rw [e1]
      simp [e2]
theorem grid_lt {i j : Nat} {p q : Rat} (hi : (allX a b)[i]? = some p) (hj : (allX a b)[j]? = some q) (h : i < j) : p < q := by
  obtain ⟨l1, e1⟩ := List.getElem?_eq_some_iff.mp hi
  obtain ⟨l2, e2⟩ := List.getElem?_eq_some_iff.mp hj
  have := List.pairwise_iff_getElem.mp (allX_sorted a b) i j l1 l2 h
  rw [e1, e2] at this
  exact this
theorem inQ_lt {j k : Nat} {c q : Rat} (h : inQ (allX a b) j c = true) (hk : (allX a b)[k]? = some q) (hjk : j < k) : c < q := by
  have hkl := (List.getElem?_eq_some_iff.mp hk).1
  unfold inQ at h
  rw [decide_eq_false (by omega), Bool.false_or] at h
  have hl : j + 1 < (allX a b).length := by omega
  have hz : (allX a b)[j + 1]? = some (allX a b)[j + 1] := List.getElem?_eq_getElem hl
  rw [hz] at h
  have h2 : c < (allX a b)[j + 1] := of_decide_eq_true h
  by_cases e : k = j + 1
  · subst e
    rw [hz] at hk
    cases hk
    exact h2
  · have := grid_lt hz hk (by omega)
    grind
theorem crs_gt {q c : Rat} (h : crsQ a b q = some c) : q < c := by
  obtain ⟨_, _, h3, h4⟩ := cross_some h
  grind
theorem lg_lt {i : Nat} {N : Nd} (h : N ∈ lgNs a b i) {k : Nat} {q : Rat} (hk : (allX a b)[k]? = some q) (hik : i ≤ k) : N.x < q := by
  obtain ⟨j, p, hj, hp, h⟩ := lg_mem h
  rcases h with rfl | ⟨c, h1, h2, rfl⟩
  · exact grid_lt hp hk (by omega)
  · exact inQ_lt h2 hk (by omega)
theorem lg_pw : ∀ i, (lgNs a b i).Pairwise fun m n => m.x < n.x
  | 0 => List.Pairwise.nil
  | i + 1 => by
    unfold lgNs
    refine List.pairwise_append.mpr ⟨lg_pw i, ?_, fun m hm n hn => ?_⟩
    · split
      · exact List.Pairwise.nil
      · rename_i q hq
        unfold lgB
        split
        · exact List.pairwise_singleton _ _
        · rename_i c hc
          split
          · refine List.pairwise_cons.mpr ⟨fun n hn => ?_, List.pairwise_singleton _ _⟩
            rw [List.mem_singleton.mp hn]
            exact crs_gt hc
          · exact List.pairwise_singleton _ _
    · split at hn
      · simp at hn
      · rename_i q hq
        have h1 := lg_lt hm hq (Nat.le_refl _)
        rcases List.mem_cons.mp hn with e | hn
        · rw [e]
          exact h1
        · unfold lgB at hn
          split at hn
          · simp at hn
          · rename_i c hc
            split at hn
            · rw [List.mem_singleton.mp hn]
              have := crs_gt hc
              show m.x < c
              grind
            · simp at hn
theorem lg_head {q0 : Rat} (h0 : (allX a b)[0]? = some q0) : ∀ i, 0 < i → ∃ r, lgNs a b i = lgA a b q0 :: r
  | i + 1, _ => by
    cases i with
    | zero =>
      unfold lgNs
      rw [h0]
      exact ⟨_, rfl⟩
    | succ i =>
      obtain ⟨r, e⟩ := lg_head h0 (i + 1) (by omega)
      rw [lgNs, e]
      exact ⟨_, rfl⟩
theorem max_or (p q : Rat) : maxQ p q = p ∨ maxQ p q = q := by
  unfold maxQ
  split <;> simp
theorem max_ge (p q : Rat) : p ≤ maxQ p q := by
  unfold maxQ
  split
  · grind
  · exact Rat.le_refl
theorem larger_good (fa : Fit a) (fb : Fit b) : Good (largerNs a b) := by
  have hl := allX_len10 fa fb
  obtain ⟨r, eX⟩ := allX_head fa.g fb.g
  refine ⟨?_, fun N hN => ?_, ?_, lg_pw _⟩
  · have := lgNs_len a b (allX a b).length
    unfold largerNs
    omega
  · obtain ⟨j, q, _, hq, h⟩ := lg_mem hN
    have hm := List.mem_of_getElem? hq
    have h6 := allX_lat fa fb hm
    have h0 := (allX_ok fa.g fb.g hm).2
    have na := fa.nb _ (nr_mem fa.g h0)
    have nb := fb.nb _ (nr_mem fb.g h0)
    have ra := reach_nf na h6
    have rb := reach_nf nb h6
    rcases h with rfl | ⟨c, h1, h2, rfl⟩
    · refine ⟨h6.up 8648640 M0 (by decide), ?_, ?_, ?_⟩
      · rcases max_or (val (nr a q) q) (val (nr b q) q) with e | e
        · show La (maxQ _ _)
          rw [e]
          exact (val_nf na h6).up 4324320 M0 (by decide)
        · show La (maxQ _ _)
          rw [e]
          exact (val_nf nb h6).up 4324320 M0 (by decide)
      · show La (pieceQ _ _ _ _).1
        unfold pieceQ
        split
        · exact ra.up 4324320 M0 (by decide)
        · split
          · exact rb.up 4324320 M0 (by decide)
          · exact ra.up 4324320 M0 (by decide)
      · show La (pieceQ _ _ _ _).2
        unfold pieceQ
        split
        · rcases max_or (nr a q).r (nr b q).r with e | e <;> simp only [e]
          · exact na.r.up 25945920 M0 (by decide)
          · exact nb.r.up 25945920 M0 (by decide)
        · split
          · exact nb.r.up 25945920 M0 (by decide)
          · exact na.r.up 25945920 M0 (by decide)
    · obtain ⟨_, hF, _, hc⟩ := cross_some h1
      have hw := way_lat (ra.sub rb) (nb.r.sub na.r) hF
      have hcl : Lat 4324320 50000 c := by
        rw [hc]
        exact ((h6.up 720720 50 (Nat.le_refl _)).add hw).mono (by decide)
      have hcq : Lat 4324320 50000 (c - q) := by
        rw [hc]
        have e : q + (reach (nr a q) q - reach (nr b q) q) / ((nr b q).r - (nr a q).r) - q = (reach (nr a q) q - reach (nr b q) q) / ((nr b q).r - (nr a q).r) := by grind
        rw [e]
        exact hw.mono (by decide)
      have ht : La (reach (nr a q) q + (nr a q).r * (c - q)) := ((ra.up 720720 10420 (Nat.le_refl _)).add (na.r.mul hcq)).up 6 M0 (by decide)
      refine ⟨hcl.up 12 M0 (by decide), ht, ht, ?_⟩
      show La (if _ then _ else _)
      split
      · exact nb.r.up 25945920 M0 (by decide)
      · exact na.r.up 25945920 M0 (by decide)
  · have h0 : (allX a b)[0]? = some 0 := by rw [eX]; rfl
    obtain ⟨r', e⟩ := lg_head h0 (allX a b).length (by rw [eX]; simp)
    exact ⟨lgA a b 0, r', e, rfl⟩
end
end G
end MA6
section MA7
set_option Elab.async false
set_option linter.all false
set_option maxRecDepth 100000
set_option maxHeartbeats 4000000
namespace G
/-! ### the larger curve is nowhere less -/
section
variable {a b : List Nd}
theorem lg_hasx {n : Nd} (h : n ∈ a ∨ n ∈ b) : ∃ m ∈ largerNs a b, m.x = n.x := by
  obtain ⟨i, hi, e⟩ := List.getElem_of_mem (allX_has h)
  have hs : (allX a b)[i]? = some n.x := by rw [List.getElem?_eq_getElem hi, e]
  exact ⟨lgA a b n.x, (lg_has hi hs).1, rfl⟩
/-- the node of the larger curve in force, and its place on the grid -/
structure At (a b : List Nd) (p : Rat) (j : Nat) (x : Rat) : Prop where
  hj : (allX a b)[j]? = some x
  x0 : 0 ≤ x
  xp : x ≤ p
  ea : nr a p = nr a x
  eb : nr b p = nr b x
  nd : nr (largerNs a b) p = lgA a b x ∨ ∃ c, crsQ a b x = some c ∧ inQ (allX a b) j c = true ∧ c ≤ p ∧ nr (largerNs a b) p = thN a b x c
theorem lg_at (ga : Good a) (gb : Good b) (gl : Good (largerNs a b)) {p : Rat} (h0 : 0 ≤ p) : ∃ j x, At a b p j x := by
  obtain ⟨e1, e2⟩ := grid_nr ga gb gl (fun n h => lg_hasx h) h0
  have hle := nr_le gl h0
  obtain ⟨j, x, _, hj, h⟩ := lg_mem (nr_mem gl h0)
  have hx0 := (allX_ok ga gb (List.mem_of_getElem? hj)).2
  rcases h with h | ⟨c, h1, h2, h⟩
  · change nr (largerNs a b) p = _ at h
    rw [h] at e1 e2 hle
    exact ⟨j, x, hj, hx0, hle, e1, e2, .inl h⟩
  · change nr (largerNs a b) p = _ at h
    rw [h] at e1 e2 hle
    change nr a p = nr a c at e1
    change nr b p = nr b c at e2
    change c ≤ p at hle
    have hxc := crs_gt h1
    have key : ∀ n, (n ∈ a ∨ n ∈ b) → n.x ≤ c → n.x ≤ x := fun n hn hc => by
      obtain ⟨k, hk, e⟩ := List.getElem_of_mem (allX_has hn)
      have hs : (allX a b)[k]? = some n.x := by rw [List.getElem?_eq_getElem hk, e]
      by_cases hjk : j < k
      · have := inQ_lt h2 hs hjk
        grind
      · by_cases ek : k = j
        · subst ek
          rw [hs] at hj
          cases hj
          exact Rat.le_refl
        · have := grid_lt hs hj (by omega)
          grind
    refine ⟨j, x, hj, hx0, by grind, ?_, ?_, .inr ⟨c, h1, h2, hle, h⟩⟩
    · rw [e1]
      exact nr_same ga hx0 (by grind) fun n hn hq => key n (.inl hn) hq
    · rw [e2]
      exact nr_same gb hx0 (by grind) fun n hn hq => key n (.inr hn) hq
theorem crs_le (ga : Good a) (gb : Good b) (gl : Good (largerNs a b)) {p q x c : Rat} {j : Nat} (h0 : 0 ≤ p) (hf : Free2 (largerNs a b) p q) (hj : (allX a b)[j]? = some x) (hN : nr (largerNs a b) p = lgA a b x) (hc : crsQ a b x = some c) : q ≤ c := by
  have hl := (List.getElem?_eq_some_iff.mp hj).1
  have hxc := crs_gt hc
  have big : ∀ m ∈ largerNs a b, m.x ≤ p → m.x ≤ x := fun m hm hp => by
    have := nr_max gl h0 hm hp
    rw [hN] at this
    exact this
  by_cases hi : inQ (allX a b) j c = true
  · have hm := (lg_has hl hj).2 c hc hi
    have h1 := big _ hm
    have h2 := hf _ hm
    change c ≤ p → c ≤ x at h1
    change ¬ (p < c ∧ c < q) at h2
    grind
  · unfold inQ at hi
    by_cases hlast : j + 1 = (allX a b).length
    · rw [decide_eq_true hlast] at hi
      exact absurd rfl hi
    · have hl2 : j + 1 < (allX a b).length := by omega
      have hz : (allX a b)[j + 1]? = some (allX a b)[j + 1] := List.getElem?_eq_getElem hl2
      rw [hz] at hi
      have hlt := grid_lt hj hz (Nat.lt_succ_self j)
      have hm := (lg_has hl2 hz).1
      generalize (allX a b)[j + 1] = x1 at hi hlt hm
      have hcx : ¬ c < x1 := fun z => hi (by rw [show (some x1).getD 0 = x1 from rfl, decide_eq_true z, Bool.or_true])
      have h1 := big _ hm
      have h2 := hf _ hm
      change x1 ≤ p → x1 ≤ x at h1
      change ¬ (p < x1 ∧ x1 < q) at h2
      grind
theorem reach_lin (n : Nd) (x q : Rat) : reach n q = reach n x + n.r * (q - x) := by
  unfold reach
  grind
theorem mul_mono {r s d : Rat} (h : r ≤ s) (hd : 0 ≤ d) : r * d ≤ s * d := Rat.mul_le_mul_of_nonneg_right h hd
theorem cross_arith {A B r s d w : Rat} (hAB : A < B) (hw : w * (s - r) = A - B) (hd : d ≤ w) (hsr : s < r) : A + r * d ≤ B + s * d := by
  have h1 : (r - s) * d ≤ (r - s) * w := Rat.mul_le_mul_of_nonneg_left hd (by grind)
  grind
theorem neg_div_pos {A F : Rat} (hA : A < 0) (hF : F < 0) : 0 < A / F := by
  have e : A / F * F = A := by grind
  by_cases h : 0 < A / F
  · exact h
  · exfalso
    have h1 : 0 ≤ -(A / F) := by grind
    have h2 : 0 ≤ -F := by grind
    have := Rat.mul_nonneg h1 h2
    have e2 : -(A / F) * -F = A / F * F := by grind
    rw [e2, e] at this
    grind
theorem lg_reach (ga : Good a) (gb : Good b) (gl : Good (largerNs a b)) {p q : Rat} (h0 : 0 ≤ p) (hpq : p ≤ q) (hf : Free2 (largerNs a b) p q) : reach (nr a p) q ≤ reach (nr (largerNs a b) p) q := by
  obtain ⟨j, x, A⟩ := lg_at ga gb gl h0
  have hxp := A.xp
  have hd : 0 ≤ q - x := by grind
  rw [A.ea, reach_lin (nr a x) x q]
  rcases A.nd with h | ⟨c, h1, h2, h3, h⟩
  · rw [h]
    have e : reach (lgA a b x) q = (pieceQ (reach (nr a x) x) (nr a x).r (reach (nr b x) x) (nr b x).r).1 + (pieceQ (reach (nr a x) x) (nr a x).r (reach (nr b x) x) (nr b x).r).2 * (q - x) := rfl
    rw [e]
    have hcl := fun c => crs_le (c := c) ga gb gl h0 hf A.hj h
    unfold crsQ at hcl
    generalize reach (nr a x) x = u at *
    generalize reach (nr b x) x = v at *
    generalize (nr a x).r = r at *
    generalize (nr b x).r = s at *
    unfold pieceQ
    by_cases h1 : u = v
    · rw [if_pos h1]
      have := mul_mono (max_ge r s) hd
      show u + r * (q - x) ≤ u + maxQ r s * (q - x)
      grind
    · rw [if_neg h1]
      by_cases h2 : u < v
      · rw [if_pos h2]
        show u + r * (q - x) ≤ v + s * (q - x)
        by_cases hrs : r ≤ s
        · have := mul_mono hrs hd
          grind
        · have hne : s - r ≠ 0 := by grind
          have hp := neg_div_pos (show u - v < 0 by grind) (show s - r < 0 by grind)
          have hq := hcl _ (cross_of (by grind) hne hp)
          refine cross_arith h2 (w := (u - v) / (s - r)) (by grind) (by grind) (by grind)
      · rw [if_neg h2]
        exact Rat.le_refl
  · rw [h]
    have e : reach (thN a b x c) q = (reach (nr a x) x + (nr a x).r * (c - x)) + (if (nr a x).r < (nr b x).r then (nr b x).r else (nr a x).r) * (q - c) := rfl
    rw [e]
    generalize reach (nr a x) x = u at *
    generalize (nr a x).r = r at *
    generalize (nr b x).r = s at *
    have hrs : r ≤ if r < s then s else r := by
      split
      · grind
      · exact Rat.le_refl
    have := mul_mono hrs (show 0 ≤ q - c by grind)
    grind
theorem free_self {ns : List Nd} {p : Rat} : Free2 ns p p := fun n _ h => by grind
theorem val_far {n : Nd} {x q : Rat} (h : n.x ≤ x) (hx : x < q) : val n q = reach n q := by
  unfold val
  rw [if_neg (by grind)]
theorem lg_val (ga : Good a) (gb : Good b) (gl : Good (largerNs a b)) {p : Rat} (h0 : 0 ≤ p) : val (nr a p) p ≤ val (nr (largerNs a b) p) p := by
  have hr := lg_reach ga gb gl h0 Rat.le_refl (free_self (p := p))
  obtain ⟨j, x, A⟩ := lg_at ga gb gl h0
  have hax := nr_le ga A.x0
  rw [← A.ea] at hax
  by_cases hN : (nr (largerNs a b) p).x = p
  · have ev : val (nr (largerNs a b) p) p = (nr (largerNs a b) p).v := by
      unfold val
      rw [if_pos hN]
    rw [ev]
    rcases A.nd with h | ⟨c, h1, h2, h3, h⟩
    · rw [h] at hN ⊢
      change x = p at hN
      subst hN
      exact max_ge _ _
    · rw [h] at hN ⊢
      change c = p at hN
      subst hN
      rw [val_far hax (crs_gt h1), A.ea, reach_lin (nr a x) x c]
      exact Rat.le_refl
  · have ev : val (nr (largerNs a b) p) p = reach (nr (largerNs a b) p) p := by
      unfold val
      rw [if_neg hN]
    rw [ev]
    have hxp : x < p := by
      rcases A.nd with h | ⟨c, h1, h2, h3, h⟩
      · rw [h] at hN
        have := A.xp
        change ¬ x = p at hN
        grind
      · have := crs_gt h1
        grind
    rw [val_far hax hxp]
    exact hr
theorem div_mono {x y d : Rat} (h : x ≤ y) (hd : 0 < d) : x / d ≤ y / d := by
  rw [Rat.div_def, Rat.div_def]
  exact Rat.mul_le_mul_of_nonneg_right h (Rat.le_of_lt (Rat.inv_pos.mpr hd))
theorem lg_pm (ga : Good a) (gb : Good b) (gl : Good (largerNs a b)) {l h : Rat} (h0 : 0 ≤ l) (hlh : l ≤ h) : pmQ a l h ≤ pmQ (prune (largerNs a b)) l h := by
  rw [pm_prune gl h0 hlh]
  unfold pmQ
  by_cases e : l = h
  · rw [if_pos e, if_pos e]
    exact lg_val ga gb gl h0
  · rw [if_neg e, if_neg e]
    have hlt : l < h := by grind
    refine div_mono ?_ (by grind)
    rw [area_J ga h0 hlt]
    refine area_ge gl h0 hlt fun p q hp hpq hf => ?_
    have fa : Free2 a p q := fun n hn => by
      obtain ⟨m, hm, e⟩ := lg_hasx (a := a) (b := b) (.inl hn)
      have := hf m hm
      rw [e] at this
      exact this
    rw [← J_seg ga hp (by grind) fa]
    have r1 := lg_reach ga gb gl hp Rat.le_refl free_self
    have r2 := lg_reach ga gb gl hp (by grind) hf
    unfold segQ
    simp only
    rw [← reach_lin, ← reach_lin]
    exact Rat.mul_le_mul_of_nonneg_left (by grind) (by grind)
theorem lg_mean (ga : Good a) (gb : Good b) (gl : Good (largerNs a b)) {ps : List Pt} (gp : GoodPs ps) : ¬ meanQ (prune (largerNs a b)) ps < meanQ a ps := by
  have := mean_ge (ns := prune (largerNs a b)) (ms := a) gp fun p hp => lg_pm ga gb gl (gp.ok p hp).l0 (gp.ok p hp).lh
  grind
end
end G
end MA7
section MA8
set_option Elab.async false
set_option linter.all false
set_option maxRecDepth 100000
set_option maxHeartbeats 4000000
namespace G
/-! ### cuts: a strict total order -/
theorem cb_iff {c d : Cut} : cb c d = true ↔ c.k < d.k ∨ (c.k = d.k ∧ (c.q < d.q ∨ (c.q = d.q ∧ c.s < d.s))) := by
  unfold cb
  by_cases h1 : c.k = d.k
  · by_cases h2 : c.q = d.q
    · rw [if_neg (by simp [h1]), if_neg (by simp [h2]), decide_eq_true_iff]
      refine ⟨fun h => .inr ⟨h1, .inr ⟨h2, h⟩⟩, fun h => ?_⟩
      rcases h with h | ⟨_, h | ⟨_, h⟩⟩
      · omega
      · grind
      · exact h
    · rw [if_neg (by simp [h1]), if_pos h2, decide_eq_true_iff]
      refine ⟨fun h => .inr ⟨h1, .inl h⟩, fun h => ?_⟩
      rcases h with h | ⟨_, h | ⟨h, _⟩⟩
      · omega
      · exact h
      · exact absurd h h2
  · rw [if_pos h1, decide_eq_true_iff]
    refine ⟨fun h => .inl h, fun h => ?_⟩
    rcases h with h | ⟨h, _⟩
    · exact h
    · exact absurd h h1
theorem cb_asymm {c d : Cut} (h : cb c d = true) : cb d c = false := by
  cases hh : cb d c with
  | false => rfl
  | true =>
    rw [cb_iff] at h hh
    exfalso
    rcases h with h | ⟨h, h' | ⟨h', h''⟩⟩ <;> rcases hh with g | ⟨g, g' | ⟨g', g''⟩⟩ <;> first | omega | grind
theorem cb_trans {c d e : Cut} (h : cb c d = true) (hh : cb d e = true) : cb c e = true := by
  rw [cb_iff] at *
  rcases h with h | ⟨h, h' | ⟨h', h''⟩⟩ <;> rcases hh with g | ⟨g, g' | ⟨g', g''⟩⟩
  · exact .inl (by omega)
  · exact .inl (by omega)
  · exact .inl (by omega)
  · exact .inl (by omega)
  · exact .inr ⟨by omega, .inl (by grind)⟩
  · exact .inr ⟨by omega, .inl (by grind)⟩
  · exact .inl (by omega)
  · exact .inr ⟨by omega, .inl (by grind)⟩
  · exact .inr ⟨by omega, .inr ⟨by grind, by omega⟩⟩
theorem cb_total {c d : Cut} (h : cb c d = false) (hh : cb d c = false) : c = d := by
  have h1 : ¬ cb c d = true := by rw [h]; exact Bool.false_ne_true
  have h2 : ¬ cb d c = true := by rw [hh]; exact Bool.false_ne_true
  rw [cb_iff] at h1 h2
  have ek : c.k = d.k := by omega
  have eq : c.q = d.q := by grind
  have es : c.s = d.s := by
    have a : ¬ c.s < d.s := fun z => h1 (.inr ⟨ek, .inr ⟨eq, z⟩⟩)
    have b : ¬ d.s < c.s := fun z => h2 (.inr ⟨ek.symm, .inr ⟨eq.symm, z⟩⟩)
    omega
  obtain ⟨k, q, s⟩ := c
  obtain ⟨k', q', s'⟩ := d
  simp only at ek eq es
  subst ek eq es
  rfl
/-! ### a part's measure of cuts -/
def clampQ (l h q : Rat) : Rat := if q < l then l else if h < q then h else q
def Tq (l h : Rat) (c : Cut) : Rat := if c.k < 0 then l else if 0 < c.k then h else clampQ l h c.q
def Uq (q : Rat) (c : Cut) : Rat := if cb ⟨0, q, 0⟩ c = true then 0 else 1
def mu (l h : Rat) (c : Cut) : Rat := if l = h then - Uq l c else Tq l h c / (h - l)
structure PrOk (p : Pr) : Prop where
  w1 : wfC p.1
  w2 : wfC p.2
  lt : cb p.1 p.2 = true
theorem PrOk.lo {p : Pr} (h : PrOk p) : p.1 = BOT ∨ (p.1.k = 0 ∧ (p.1.s = 0 ∨ p.1.s = 1)) := by
  rcases h.w1 with e | e | e
  · exact .inl e
  · exfalso
    have := cb_iff.mp h.lt
    rw [e] at this
    rcases h.w2 with e2 | e2 | e2
    · rw [e2] at this; simp [TOPC, BOT] at this
    · rw [e2] at this; simp [TOPC] at this
    · simp [TOPC, e2.1] at this
  · exact .inr e
theorem PrOk.hi {p : Pr} (h : PrOk p) : p.2 = TOPC ∨ (p.2.k = 0 ∧ (p.2.s = 0 ∨ p.2.s = 1)) := by
  rcases h.w2 with e | e | e
  · exfalso
    have := cb_iff.mp h.lt
    rw [e] at this
    rcases h.lo with e2 | e2
    · rw [e2] at this; simp [BOT] at this
    · simp [BOT, e2.1] at this
  · exact .inl e
  · exact .inr e
theorem clamp_len {l h p q : Rat} (hlh : l < h) (hpq : p ≤ q) : (if maxQ l p < minQ h q then minQ h q - maxQ l p else 0) = clampQ l h q - clampQ l h p := by
  unfold maxQ minQ clampQ
  grind
theorem clamp_lo {l h q : Rat} (hlh : l < h) : (if l < minQ h q then minQ h q - l else 0) = clampQ l h q - l := by
  unfold minQ clampQ
  grind
theorem clamp_hi {l h p : Rat} (hlh : l < h) : (if maxQ l p < h then h - maxQ l p else 0) = h - clampQ l h p := by
  unfold maxQ clampQ
  grind
theorem len_T {p : Pr} (hp : PrOk p) {l h : Rat} (hlh : l < h) : lenS l h (rgOf p.1 p.2) = Tq l h p.2 - Tq l h p.1 := by
  obtain ⟨c, d⟩ := p
  rcases hp.lo with e1 | ⟨e1, _⟩ <;> rcases hp.hi with e2 | ⟨e2, _⟩
  · simp only at e1 e2
    subst e1 e2
    show (if l < h then h - l else 0) = h - l
    rw [if_pos hlh]
  · simp only at e1 e2
    subst e1
    have : Tq l h d = clampQ l h d.q := by
      unfold Tq
      rw [if_neg (by omega), if_neg (by omega)]
    rw [this]
    have er : rgOf BOT d = ⟨none, some (d.q, decide (d.s = 1))⟩ := by
      unfold rgOf
      rw [if_pos (by decide), if_neg (by simp [e2])]
    rw [er]
    exact clamp_lo hlh
  · simp only at e1 e2
    subst e2
    have : Tq l h c = clampQ l h c.q := by
      unfold Tq
      rw [if_neg (by omega), if_neg (by omega)]
    rw [this]
    have er : rgOf c TOPC = ⟨some (c.q, decide (c.s = 0)), none⟩ := by
      unfold rgOf
      rw [if_neg (by simp [e1]), if_pos (by decide)]
    rw [er]
    exact clamp_hi hlh
  · simp only at e1 e2
    have t1 : Tq l h c = clampQ l h c.q := by
      unfold Tq
      rw [if_neg (by omega), if_neg (by omega)]
    have t2 : Tq l h d = clampQ l h d.q := by
      unfold Tq
      rw [if_neg (by omega), if_neg (by omega)]
    rw [t1, t2]
    have er : rgOf c d = ⟨some (c.q, decide (c.s = 0)), some (d.q, decide (d.s = 1))⟩ := by
      unfold rgOf
      rw [if_neg (by simp [e1]), if_neg (by simp [e2])]
    rw [er]
    have hle : c.q ≤ d.q := by
      have := cb_iff.mp hp.lt
      simp only [e1, e2] at this
      grind
    exact clamp_len hlh hle
/-- past the upper side of q, or not past the lower -/
theorem cb_sides {c : Cut} (hc : c = BOT ∨ c = TOPC ∨ (c.k = 0 ∧ (c.s = 0 ∨ c.s = 1))) {q : Rat} : cb c ⟨0, q, 1⟩ = !cb ⟨0, q, 0⟩ c := by
  cases h1 : cb c ⟨0, q, 1⟩ with
  | true =>
    cases h2 : cb ⟨0, q, 0⟩ c with
    | false => rfl
    | true =>
      exfalso
      rw [cb_iff] at h1 h2
      simp only at h1 h2
      rcases hc with e | e | ⟨e, e'⟩
      · subst e; simp [BOT] at h2
      · subst e; simp [TOPC] at h1
      · rcases h1 with h | ⟨_, h | ⟨h, h'⟩⟩
        · omega
        · grind
        · rcases h2 with g | ⟨_, g | ⟨g, g'⟩⟩
          · omega
          · grind
          · omega
  | false =>
    cases h2 : cb ⟨0, q, 0⟩ c with
    | true => rfl
    | false =>
      exfalso
      have h1' : ¬ cb c ⟨0, q, 1⟩ = true := by rw [h1]; exact Bool.false_ne_true
      have h2' : ¬ cb ⟨0, q, 0⟩ c = true := by rw [h2]; exact Bool.false_ne_true
      rw [cb_iff] at h1' h2'
      simp only at h1' h2'
      rcases hc with e | e | ⟨e, e'⟩
      · subst e; simp [BOT] at h1'
      · subst e; simp [TOPC] at h2'
      · have eq : c.q = q := by grind
        by_cases es : c.s < 1
        · exact h1' (.inr ⟨e, .inr ⟨eq, es⟩⟩)
        · exact h2' (.inr ⟨e.symm, .inr ⟨eq.symm, by omega⟩⟩)
theorem in_iff {p : Pr} (hp : PrOk p) {q : Rat} : inRg q p = (!cb ⟨0, q, 0⟩ p.1 && cb ⟨0, q, 0⟩ p.2) := by
  unfold inRg
  rw [cb_sides hp.w2, Bool.not_not]
theorem in_U {p : Pr} (hp : PrOk p) {q : Rat} : (if inRg q p = true then (1 : Rat) else 0) = Uq q p.1 - Uq q p.2 := by
  rw [in_iff hp]
  unfold Uq
  cases h1 : cb ⟨0, q, 0⟩ p.1 with
  | true =>
    rw [cb_trans h1 hp.lt]
    simp
    try grind
  | false =>
    cases h2 : cb ⟨0, q, 0⟩ p.2 with
    | true =>
      simp
      try grind
    | false =>
      simp
      try grind
theorem sh_nil {l h : Rat} : shQ [] l h = 0 := by
  unfold shQ
  split
  · rfl
  · show (0 : Rat) / _ = 0
    grind
theorem sh_one {p : Pr} (hp : PrOk p) {l h : Rat} (hlh : l ≤ h) : shQ [p] l h = mu l h p.2 - mu l h p.1 := by
  unfold shQ mu
  by_cases e : l = h
  · rw [if_pos e, if_pos e, if_pos e]
    have : [p].any (inRg l) = inRg l p := by simp
    rw [this, in_U hp]
    grind
  · rw [if_neg e, if_neg e, if_neg e]
    have : lenQ (rgl [p]) l h = Tq l h p.2 - Tq l h p.1 := by
      rw [← len_T hp (show l < h by grind)]
      show 0 + lenS l h (rgOf p.1 p.2) = _
      grind
    rw [this]
    grind
theorem sh_two {X Y : Pr} (hx : PrOk X) (hy : PrOk Y) (hxy : cb X.2 Y.1 = true) {l h : Rat} (hlh : l ≤ h) : shQ [X, Y] l h = (mu l h X.2 - mu l h X.1) + (mu l h Y.2 - mu l h Y.1) := by
  unfold shQ mu
  by_cases e : l = h
  · rw [if_pos e, if_pos e, if_pos e, if_pos e, if_pos e]
    have : [X, Y].any (inRg l) = (inRg l X || inRg l Y) := by simp
    rw [this]
    have h1 := in_U hx (q := l)
    have h2 := in_U hy (q := l)
    have h3 : (inRg l X && inRg l Y) = false := by
      rw [in_iff hx, in_iff hy]
      cases hc : cb ⟨0, l, 0⟩ X.2 with
      | true =>
        rw [cb_trans hc hxy]
        simp
      | false => simp
    cases hX : inRg l X with
    | true =>
      cases hY : inRg l Y with
      | true => rw [hX, hY] at h3; exact absurd h3 (by decide)
      | false =>
        rw [hX] at h1
        rw [hY] at h2
        simp at h1 h2 ⊢
        grind
    | false =>
      cases hY : inRg l Y with
      | true =>
        rw [hX] at h1
        rw [hY] at h2
        simp at h1 h2 ⊢
        grind
      | false =>
        rw [hX] at h1
        rw [hY] at h2
        simp at h1 h2 ⊢
        grind
  · rw [if_neg e, if_neg e, if_neg e, if_neg e, if_neg e]
    have hlt : l < h := by grind
    have : lenQ (rgl [X, Y]) l h = (Tq l h X.2 - Tq l h X.1) + (Tq l h Y.2 - Tq l h Y.1) := by
      rw [← len_T hx hlt, ← len_T hy hlt]
      show 0 + lenS l h (rgOf X.1 X.2) + lenS l h (rgOf Y.1 Y.2) = _
      grind
    rw [this]
    grind
theorem mu_all {l h : Rat} (hlh : l ≤ h) : mu l h TOPC - mu l h BOT = 1 := by
  unfold mu
  by_cases e : l = h
  · rw [if_pos e, if_pos e]
    have h1 : Uq l TOPC = 0 := by
      unfold Uq
      rw [if_pos]
      rw [cb_iff]
      exact .inl (show (0 : Int) < 1 by decide)
    have h2 : Uq l BOT = 1 := by
      unfold Uq
      rw [if_neg]
      rw [cb_iff]
      simp [BOT]
    rw [h1, h2]
    grind
  · rw [if_neg e, if_neg e]
    show h / (h - l) - l / (h - l) = 1
    grind
/-! ### the sets -/
theorem join_one {p : Pr} : joinP [p] = [p] := rfl
theorem btw_nil : btw [] = [] := rfl
theorem btw_one {p : Pr} : btw [p] = if cb p.1 p.2 = true then [p] else [] := by
  unfold btw
  cases h : cbp p with
  | true =>
    have : [p].filter cbp = [p] := by simp [h]
    rw [this, if_pos (show cb p.1 p.2 = true from h)]
    rfl
  | false =>
    have : [p].filter cbp = [] := by simp [h]
    rw [this, if_neg (show ¬ cb p.1 p.2 = true by show ¬ cbp p = true; rw [h]; exact Bool.false_ne_true)]
    rfl
theorem btw_two {A B : Pr} (ha : cb A.1 A.2 = true) (hb : cb B.1 B.2 = true) : btw [A, B] = if cb B.1 A.1 = true then joinS [B] A else joinS [A] B := by
  have h1 : cbp A = true := ha
  have h2 : cbp B = true := hb
  have : [A, B].filter cbp = [A, B] := by simp [h1, h2]
  unfold btw
  rw [this]
  show (insP (insP [] A) B).foldl joinS [] = _
  have e1 : insP [] A = [A] := rfl
  have e2 : insP [A] B = if cb B.1 A.1 = true then [B, A] else [A, B] := by
    unfold insP
    have : posP [A] B [A].length = if cb B.1 A.1 = true then 0 else 1 := by
      show (if cb B.1 A.1 = true then 0 else 1) = _
      rfl
    rw [this]
    split <;> rfl
  rw [e1, e2]
  split <;> rfl
theorem joinS_one {X Y : Pr} : joinS [X] Y = if cb X.2 Y.1 = true then [X, Y] else [(X.1, later X.2 Y.2)] := by
  unfold joinS
  rfl
theorem out_one {A : Pr} (h1 : wfC A.1) (h2 : wfC A.2) (h : cb A.1 A.2 = true) (k1 : A.1.k = 0) (k2 : A.2.k = 0) : outR [A] = [(BOT, A.1), (A.2, TOPC)] := by
  have e : outR [A] = btw [(BOT, A.1), (A.2, TOPC)] := rfl
  have b1 : cb BOT A.1 = true := cb_iff.mpr (.inl (by rw [k1]; decide))
  have b2 : cb A.2 TOPC = true := cb_iff.mpr (.inl (by rw [k2]; decide))
  have b3 : cb A.2 BOT = false := cb_asymm (cb_iff.mpr (.inl (by rw [k2]; decide)))
  rw [e, btw_two b1 b2]
  simp only
  rw [if_neg (by rw [b3]; exact Bool.false_ne_true), joinS_one, if_pos h]
/-- the union's and the intersection's measure are those of both -/
theorem or_and {A B : Pr} (ha : PrOk A) (hb : PrOk B) {l h : Rat} (hlh : l ≤ h) : shQ (btw ([A] ++ [B])) l h + shQ (btw (andP [A] [B])) l h = shQ [A] l h + shQ [B] l h := by
  have eo : btw ([A] ++ [B]) = btw [A, B] := rfl
  have ea : andP [A] [B] = [(later A.1 B.1, earlier A.2 B.2)] := rfl
  have core : ∀ X Y : Pr, PrOk X → PrOk Y → cb Y.1 X.1 = false → shQ (joinS [X] Y) l h + shQ (btw [(Y.1, earlier X.2 Y.2)]) l h = shQ [X] l h + shQ [Y] l h := fun X Y hx hy hn => by
    rw [sh_one hx hlh, sh_one hy hlh, joinS_one, btw_one]
    simp only
    cases hg : cb X.2 Y.1 with
    | true =>
      have hxy := cb_trans hg hy.lt
      have e2 : earlier X.2 Y.2 = X.2 := by
        unfold earlier
        rw [if_neg (by rw [cb_asymm hxy]; exact Bool.false_ne_true)]
      rw [e2, if_pos rfl, if_neg (by rw [cb_asymm hg]; exact Bool.false_ne_true), sh_two hx hy hg hlh, sh_nil]
      grind
    | false =>
      rw [if_neg Bool.false_ne_true]
      have wl : wfC (later X.2 Y.2) := by
        unfold later
        split
        · exact hy.w2
        · exact hx.w2
      have we : wfC (earlier X.2 Y.2) := by
        unfold earlier
        split
        · exact hy.w2
        · exact hx.w2
      have hY2 : cb X.1 Y.2 = true := by
        cases hz : cb X.1 Y.1 with
        | true => exact cb_trans hz hy.lt
        | false =>
          rw [cb_total hz hn]
          exact hy.lt
      have hl : cb X.1 (later X.2 Y.2) = true := by
        unfold later
        split
        · exact hY2
        · exact hx.lt
      rw [sh_one (p := (X.1, later X.2 Y.2)) ⟨hx.w1, wl, hl⟩ hlh]
      simp only
      cases hc : cb Y.1 X.2 with
      | true =>
        have he : cb Y.1 (earlier X.2 Y.2) = true := by
          unfold earlier
          split
          · exact hy.lt
          · exact hc
        rw [if_pos he, sh_one (p := (Y.1, earlier X.2 Y.2)) ⟨hy.w1, we, he⟩ hlh]
        simp only
        have : mu l h (later X.2 Y.2) + mu l h (earlier X.2 Y.2) = mu l h X.2 + mu l h Y.2 := by
          unfold later earlier
          cases h1 : cb X.2 Y.2 with
          | true =>
            rw [cb_asymm h1]
            simp
            try grind
          | false =>
            cases h2 : cb Y.2 X.2 with
            | true =>
              simp
              try grind
            | false =>
              rw [cb_total h1 h2]
              simp
        grind
      | false =>
        have ex := cb_total hg hc
        have e1 : cb X.2 Y.2 = true := by
          rw [ex]
          exact hy.lt
        have e2 : later X.2 Y.2 = Y.2 := by
          unfold later
          rw [if_pos e1]
        have e3 : earlier X.2 Y.2 = X.2 := by
          unfold earlier
          rw [if_neg (by rw [cb_asymm e1]; exact Bool.false_ne_true)]
        rw [e2, e3, if_neg (by rw [hc]; exact Bool.false_ne_true), sh_nil, ex]
        grind
  rw [eo, ea, btw_two ha.lt hb.lt]
  cases hn : cb B.1 A.1 with
  | true =>
    rw [if_pos rfl]
    have e1 : later A.1 B.1 = A.1 := by
      unfold later
      rw [if_neg (by rw [cb_asymm hn]; exact Bool.false_ne_true)]
    have e2 : earlier A.2 B.2 = earlier B.2 A.2 := by
      unfold earlier
      cases h1 : cb A.2 B.2 with
      | true =>
        rw [cb_asymm h1]
        simp
      | false =>
        cases h2 : cb B.2 A.2 with
        | true => simp
        | false =>
          rw [cb_total h1 h2]
    rw [e1, e2, core B A hb ha (cb_asymm hn)]
    grind
  | false =>
    rw [if_neg Bool.false_ne_true]
    have e1 : later A.1 B.1 = B.1 := by
      unfold later
      split
      · rfl
      · rename_i hz
        exact cb_total (by simpa using hz) hn
    rw [e1]
    exact core A B ha hb hn
theorem out_all {A : Pr} (ha : PrOk A) (k1 : A.1.k = 0) (k2 : A.2.k = 0) {l h : Rat} (hlh : l ≤ h) : shQ [A] l h + shQ (outR [A]) l h = 1 := by
  have b1 : cb BOT A.1 = true := cb_iff.mpr (.inl (by rw [k1]; decide))
  have b2 : cb A.2 TOPC = true := cb_iff.mpr (.inl (by rw [k2]; decide))
  rw [out_one ha.w1 ha.w2 ha.lt k1 k2, sh_one ha hlh, sh_two (X := (BOT, A.1)) (Y := (A.2, TOPC)) ⟨.inl rfl, ha.w1, b1⟩ ⟨ha.w2, .inr (.inl rfl), b2⟩ ha.lt hlh]
  have := mu_all hlh
  grind
/-! ### totals of shares -/
theorem sh_lin {as bs cs ds : List Pr} {qs : List Pt} (h : ∀ p ∈ qs, shQ as p.l p.h + shQ bs p.l p.h = shQ cs p.l p.h + shQ ds p.l p.h) : shareQ as qs + shareQ bs qs = shareQ cs qs + shareQ ds qs := by
  have e : shTot as qs + shTot bs qs = shTot cs qs + shTot ds qs := by
    unfold shTot
    have h1 := fold_lin2 (f := fun p : Pt => (p.c : Rat) * (shQ as p.l p.h + shQ bs p.l p.h)) (g := fun p => (p.c : Rat) * shQ as p.l p.h) (h := fun p => (p.c : Rat) * shQ bs p.l p.h) (x := 1) (y := 1) (ps := qs) (t := 0) (u := 0) fun p hp => by grind
    have h2 := fold_lin2 (f := fun p : Pt => (p.c : Rat) * (shQ as p.l p.h + shQ bs p.l p.h)) (g := fun p => (p.c : Rat) * shQ cs p.l p.h) (h := fun p => (p.c : Rat) * shQ ds p.l p.h) (x := 1) (y := 1) (ps := qs) (t := 0) (u := 0) fun p hp => by rw [h p hp]; grind
    rw [h1] at h2
    simpa only [Rat.one_mul] using h2
  unfold shareQ
  have : ∀ x y z : Rat, x / z + y / z = (x + y) / z := fun x y z => by
    rw [Rat.div_def, Rat.div_def, Rat.div_def]
    grind
  rw [this, this, e]
theorem hous_fold : ∀ {qs : List Pt} {t : Rat}, qs.foldl (fun t p => t + (p.c : Rat) * 1) t = t + (housQ qs : Rat)
  | [], t => by
    show t = t + ((0 : Int) : Rat)
    have : ((0 : Int) : Rat) = 0 := rfl
    rw [this]
    grind
  | p :: qs, t => by
    rw [List.foldl_cons, hous_fold (qs := qs)]
    have : housQ (p :: qs) = p.c + housQ qs := by
      unfold housQ
      rw [List.map_cons, List.sum_cons]
    rw [this, Rat.intCast_add]
    grind
theorem sh_comp {as bs : List Pr} {qs : List Pt} (gp : GoodPs qs) (h : ∀ p ∈ qs, shQ as p.l p.h + shQ bs p.l p.h = 1) : shareQ as qs + shareQ bs qs = 1 := by
  have e : shTot as qs + shTot bs qs = (housQ qs : Rat) := by
    unfold shTot
    have h1 := fold_lin2 (f := fun p : Pt => (p.c : Rat) * 1) (g := fun p => (p.c : Rat) * shQ as p.l p.h) (h := fun p => (p.c : Rat) * shQ bs p.l p.h) (x := 1) (y := 1) (ps := qs) (t := 0) (u := 0) fun p hp => by rw [← h p hp]; grind
    rw [hous_fold] at h1
    grind
  have hp := hous_pos gp
  unfold shareQ
  have hne : (housQ qs : Rat) ≠ 0 := by grind
  grind
theorem share_nil {qs : List Pt} : shareQ [] qs = 0 := by
  have : ∀ {ps : List Pt} {t : Rat}, ps.foldl (fun t p => t + (p.c : Rat) * shQ [] p.l p.h) t = t := by
    intro ps
    induction ps with
    | nil => intro t; rfl
    | cons p ps ih =>
      intro t
      rw [List.foldl_cons, ih, sh_nil]
      grind
  unfold shareQ shTot
  rw [this]
  grind
/-! ### good sets -/
def LC (c : Cut) : Prop := wfC c ∧ La c.q
theorem lc_bot : LC BOT := ⟨.inl rfl, lat0⟩
theorem lc_top : LC TOPC := ⟨.inr (.inl rfl), lat0⟩
theorem lc_la {c d : Cut} (h1 : LC c) (h2 : LC d) : laRg (rgOf c d) := by
  unfold rgOf laRg
  simp only
  constructor
  · split
    · trivial
    · exact h1.2
  · split
    · trivial
    · exact h2.2
theorem goodR_of {ps : List Pr} (hl : ps.length ≤ 900) (h : ∀ p ∈ ps, LC p.1 ∧ LC p.2) : GoodR ps := by
  refine ⟨⟨hl, fun p hp => ⟨⟨(h p hp).1.2.sm, (h p hp).2.2.sm⟩, (h p hp).1.1, (h p hp).2.1⟩⟩, fun r hr => ?_⟩
  obtain ⟨p, hp, rfl⟩ := List.mem_map.mp hr
  exact lc_la (h p hp).1 (h p hp).2
theorem goodR_nil : GoodR [] := goodR_of (Nat.zero_le _) fun p hp => by simp at hp
theorem goodR_one {p : Pr} (h1 : LC p.1) (h2 : LC p.2) : GoodR [p] := goodR_of (by simp) fun q hq => by
  rw [List.mem_singleton.mp hq]
  exact ⟨h1, h2⟩
theorem goodR_two {X Y : Pr} (h1 : LC X.1) (h2 : LC X.2) (h3 : LC Y.1) (h4 : LC Y.2) : GoodR [X, Y] := goodR_of (by simp) fun q hq => by
  simp only [List.mem_cons, List.not_mem_nil, or_false] at hq
  rcases hq with rfl | rfl
  · exact ⟨h1, h2⟩
  · exact ⟨h3, h4⟩
theorem lc_later {c d : Cut} (h1 : LC c) (h2 : LC d) : LC (later c d) := by
  unfold later
  split
  · exact h2
  · exact h1
theorem lc_earlier {c d : Cut} (h1 : LC c) (h2 : LC d) : LC (earlier c d) := by
  unfold earlier
  split
  · exact h2
  · exact h1
theorem goodR_join {X Y : Pr} (h1 : LC X.1) (h2 : LC X.2) (h3 : LC Y.1) (h4 : LC Y.2) : GoodR (joinS [X] Y) := by
  rw [joinS_one]
  split
  · exact goodR_two h1 h2 h3 h4
  · exact goodR_one h1 (lc_later h2 h4)
/-- a set as the law draws them -/
structure SetOk (A : Pr) : Prop where
  c1 : LC A.1
  c2 : LC A.2
  k1 : A.1.k = 0
  k2 : A.2.k = 0
  lt : cb A.1 A.2 = true
theorem SetOk.pr {A : Pr} (h : SetOk A) : PrOk A := ⟨h.c1.1, h.c2.1, h.lt⟩
theorem shSet_ok {f : Fd} (hf : okF f) : SetOk (shSet f) := by
  obtain ⟨h1, h2, h3, _, _⟩ := sh_ok1 hf
  have l1 : La (shLow f) := h1.up 25945920 M0 (by decide)
  have l2 : La (shLow f + shWide f) := (h1.add h2).up 25945920 M0 (by decide)
  refine ⟨⟨.inr (.inr ⟨rfl, ?_⟩), l1⟩, ⟨.inr (.inr ⟨rfl, ?_⟩), l2⟩, rfl, rfl, (shRg_ok hf).2⟩
  · have e : (shSet f).1.s = if shB1 f = true then 0 else 1 := rfl
    rw [e]
    split
    · exact .inl rfl
    · exact .inr rfl
  · have e : (shSet f).2.s = if shB2 f = true then 1 else 0 := rfl
    rw [e]
    split
    · exact .inr rfl
    · exact .inl rfl
theorem shares_ok {f : Fd} (hf : okF f) {qs : List Pt} (gp : GoodPs qs) : SharesLaw f qs := by
  obtain ⟨_, _, _, _, hf2⟩ := sh_ok1 hf
  have a := shSet_ok hf
  have b := shSet_ok hf2
  refine ⟨goodR_one a.c1 a.c2, goodR_one b.c1 b.c2, ?_, ?_, ?_, ?_, ?_⟩
  · rw [out_one a.c1.1 a.c2.1 a.lt a.k1 a.k2]
    exact goodR_two lc_bot a.c1 a.c2 lc_top
  · have e : btw ([shSet f] ++ [shSet (shStep f)]) = btw [shSet f, shSet (shStep f)] := rfl
    rw [e, btw_two a.lt b.lt]
    split
    · exact goodR_join b.c1 b.c2 a.c1 a.c2
    · exact goodR_join a.c1 a.c2 b.c1 b.c2
  · have e : andP [shSet f] [shSet (shStep f)] = [(later (shSet f).1 (shSet (shStep f)).1, earlier (shSet f).2 (shSet (shStep f)).2)] := rfl
    rw [e, btw_one]
    split
    · exact goodR_one (lc_later a.c1 b.c1) (lc_earlier a.c2 b.c2)
    · exact goodR_nil
  · exact sh_comp gp fun p hp => out_all a.pr a.k1 a.k2 (gp.ok p hp).lh
  · exact sh_lin fun p hp => or_and a.pr b.pr (gp.ok p hp).lh
end G
end MA8
section MA9
set_option Elab.async false
set_option linter.all false
set_option maxRecDepth 100000
set_option maxHeartbeats 4000000
namespace G
/-! ### all that a turn of the law wants -/
theorem fewFd_okF {f : Fd} (h : okF f) : okF (fewFd f) := (few_FI h).f
theorem few_fit {f : Fd} (h : okF f) : Fit (prune (fewNs f)) := ⟨(few_nodes h).1.g, (few_nodes h).1.l5, (few_nodes h).2⟩
theorem fewP_good {ps : List Pt} (g : GoodPs ps) : GoodPs (ps.map fewP) ∧ ∀ p ∈ ps.map fewP, p.c ≤ 3 := by
  have hc : ∀ p ∈ ps.map fewP, 1 ≤ p.c ∧ p.c ≤ 3 := fun p hp => by
    obtain ⟨q, _, rfl⟩ := List.mem_map.mp hp
    show 1 ≤ 1 + q.c % 3 ∧ 1 + q.c % 3 ≤ 3
    omega
  refine ⟨⟨by rw [List.length_map]; exact g.l1, by rw [List.length_map]; exact g.l8, fun p hp => ?_⟩, fun p hp => (hc p hp).2⟩
  have h := hc p hp
  obtain ⟨q, hq, rfl⟩ := List.mem_map.mp hp
  have k := g.ok q hq
  exact ⟨h.1, by omega, k.l0, k.lh, k.ll, k.hh⟩
theorem trip_good {ps : List Pt} (g : GoodPs ps) (h3 : ∀ p ∈ ps, p.c ≤ 3) : GoodPs (ps.map tripP) := by
  refine ⟨by rw [List.length_map]; exact g.l1, by rw [List.length_map]; exact g.l8, fun p hp => ?_⟩
  obtain ⟨q, hq, rfl⟩ := List.mem_map.mp hp
  have k := g.ok q hq
  have k1 := k.c1
  have k3 := h3 q hq
  exact ⟨show 1 ≤ 3 * q.c by omega, show 3 * q.c ≤ 9 by omega, k.l0, k.lh, k.ll, k.hh⟩
theorem rev_good {ps : List Pt} (g : GoodPs ps) : GoodPs ps.reverse := ⟨by rw [List.length_reverse]; exact g.l1, by rw [List.length_reverse]; exact g.l8, fun p hp => g.ok p (List.mem_reverse.mp hp)⟩
theorem free_next {ns : List Nd} (hp : ns.Pairwise fun a b => a.x < b.x) {j : Nat} {n : Nd} {b : Rat} (hj : ns[j]? = some n) (hb : ∀ m, ns[j + 1]? = some m → b = m.x) : Free2 ns n.x b := fun m hm h => by
  obtain ⟨k, hk, e⟩ := List.getElem_of_mem hm
  obtain ⟨lj, ej⟩ := List.getElem?_eq_some_iff.mp hj
  have up := List.pairwise_iff_getElem.mp hp
  by_cases h1 : k ≤ j
  · by_cases h2 : k = j
    · subst h2
      rw [ej] at e
      rw [e] at h
      grind
    · have := up k j hk lj (by omega)
      rw [e, ej] at this
      grind
  · have hl : j + 1 < ns.length := by omega
    have e2 := hb _ (List.getElem?_eq_getElem hl)
    by_cases h2 : k = j + 1
    · subst h2
      rw [e] at e2
      grind
    · have := up (j + 1) k hl hk (by omega)
      rw [e] at this
      grind
theorem cut_law {f : Fd} (hf : okF f) {ns : List Nd} (w : Few6 ns) : CutLaw f ns (prune ns) := by
  obtain ⟨c, _, _, _⟩ := cut_ok hf
  refine ⟨cut_law1 w.g.prune c.l0 c.lc c.ch (by unfold cutH; grind), ?_⟩
  obtain ⟨x1, x2, _, x4⟩ := w.x1 hf
  have h1 := (w.one hf).1
  refine cut_law2 w.g x2 x4 (free_next w.g.pw h1 fun m hm => ?_)
  unfold cutOth
  rw [hm]
theorem sub_pm {a b : List Nd} (fa : Fit a) (fb : Fit b) {l h : Rat} (h0 : 0 ≤ l) (hlh : l ≤ h) : pmQ (prune (subNs a b)) l h = 1 * pmQ a l h + -1 * pmQ b l h := by
  have fn := neg_fit fb
  unfold subNs
  rw [sum_pm fa.g fn.prune.g (sum_good fa fn.prune) h0 hlh, sc_pm fb.g fn.g h0 hlh]
  grind
theorem turn_ok {f : Fd} (hf : okF f) : AllOk f := by
  have hf1 := fewFd_okF hf
  obtain ⟨gp, hf2⟩ := parts_ok hf1
  have hf3 := fewFd_okF hf2
  have hf4 := someF_ok hf3
  have w6 := (few_nodes hf).1
  have fa0 := few_fit hf
  have fb0 := few_fit hf2
  have fa := fa0.prune
  have fb := fb0.prune
  have hk := someQ_lat hf3
  have h5 := (w6.one hf4).2.2.2
  have gs := sum_good fa fb
  have gk := sc_good fa hk
  have gl := larger_good fa fb
  have g3 := fewP_good gp
  have z : ∀ x : Rat, x = 1 * x := fun x => by grind
  refine { of4 := hf4, w6 := w6, gn := fa0.g, gm := fb0.g, gp := gp, lk := hk.up 8648640 M0 (by decide), gs := gs, gneg := (neg_fit fb).g, gsub := sum_good fa (neg_fit fb).prune, gk := gk, gl := gl, gf := g3.1, gt := trip_good g3.1 g3.2, gr := rev_good gp, m1 := ?_, m2 := ?_, m3 := ?_, m4 := lg_mean fa.g fb.g gl gp, m5 := mean_trip g3.1, m6 := mean_rev, cut := cut_law hf4 w6, f5 := h5, sh := shares_ok h5 gp, g0 := goodR_nil, s3 := share_nil }
  · have := mean_lin (ns := prune (sumNs (prune (prune (fewNs f))) (prune (prune (fewNs (partsFd (fewFd f))))))) (as := prune (prune (fewNs f))) (bs := prune (prune (fewNs (partsFd (fewFd f))))) (ps := partsPs (fewFd f)) (x := 1) (y := 1) fun p hp => by
      rw [sum_pm fa.g fb.g gs (gp.ok p hp).l0 (gp.ok p hp).lh]
      grind
    rw [this]
    grind
  · have := mean_lin (ns := prune (subNs (prune (prune (fewNs f))) (prune (prune (fewNs (partsFd (fewFd f))))))) (as := prune (prune (fewNs f))) (bs := prune (prune (fewNs (partsFd (fewFd f))))) (ps := partsPs (fewFd f)) (x := 1) (y := -1) fun p hp => sub_pm fa fb (gp.ok p hp).l0 (gp.ok p hp).lh
    rw [this]
    grind
  · have := mean_lin (ns := prune ((prune (prune (fewNs f))).map (scN (someQ (fewFd (partsFd (fewFd f))))))) (as := prune (prune (fewNs f))) (bs := prune (prune (fewNs f))) (ps := partsPs (fewFd f)) (x := someQ (fewFd (partsFd (fewFd f)))) (y := 0) fun p hp => by
      rw [sc_pm fa.g gk (gp.ok p hp).l0 (gp.ok p hp).lh]
      grind
    rw [this]
    grind
theorem lawAll : ∀ f : Fd, okF f → AllOk f := fun _ h => turn_ok h
end G
end MA9
section END1
set_option Elab.async false
set_option linter.all false
set_option maxRecDepth 100000
set_option maxHeartbeats 4000000
set_option exponentiation.threshold 500000
namespace G
open PySem PySem.Spec PyProof.Rows L2
/-! ### what the top has written -/
structure DefK (K : PySem.W.Frag) (x : Str) (st : Stmt) : Prop where
  ex : ∃ (f : Addr) (oc : Value) (od : Option Addr) (osl : Array (Option Value)) (kV doc pm : Value) (an : Option Addr) (cdv ct : Value), PySem.W.nsIn K mainGlobals x = some (some (.ref f)) ∧ K.lookup f = some ⟨oc, od, .func (PySem.W.fnOf x x (defArgs st) (defBody st) (defScope st) .none kV doc pm an cdv ct), osl⟩ ∧ PySem.W.codeIn K cdv x = true ∧ PySem.W.keepIn K (.ref f) = true
theorem defk {K : PySem.W.Frag} {x : Str} {st : Stmt} {f : Addr} {oc : Value} {od : Option Addr} {osl : Array (Option Value)} {kV doc pm : Value} {an : Option Addr} {cdv ct : Value} (a : PySem.W.nsIn K mainGlobals x = some (some (.ref f))) (l : K.lookup f = some ⟨oc, od, .func (PySem.W.fnOf x x (defArgs st) (defBody st) (defScope st) .none kV doc pm an cdv ct), osl⟩) (c : PySem.W.codeIn K cdv x = true) (k : PySem.W.keepIn K (.ref f) = true) : DefK K x st := ⟨f, oc, od, osl, kV, doc, pm, an, cdv, ct, a, l, c, k⟩
theorem DefK.at_ {K : PySem.W.Frag} {x : Str} {st : Stmt} {ps : List Str} {h : Heap} {mg : Str → Option Value} (X : K.In h) (G : h.Ns mainGlobals mg) (d : DefK K x st) (hb : ∀ (kV doc pm : Value) (an : Option Addr) (cdv ct : Value) (us : List Value), us.length = ps.length → bindArgs (PySem.W.fnOf x x (defArgs st) (defBody st) (defScope st) .none kV doc pm an cdv ct) ⟨us, []⟩ = pure (ps.zip us)) : ∃ (f : Addr) (fd : FuncData), DefAt K mg x st ps f fd := by
  obtain ⟨f, oc, od, osl, kV, doc, pm, an, cdv, ct, a, l, c, k⟩ := d.ex
  have F := fun_mk (st := st) l c k
  exact ⟨f, _, F, PySem.W.mg_of X G a, F.binds hb⟩
structure MethK (K : PySem.W.Frag) (C : Addr) (x qual : Str) (st : Stmt) : Prop where
  ex : ∃ (f : Addr) (oc : Value) (od : Option Addr) (osl : Array (Option Value)) (kV doc pm : Value) (an : Option Addr) (cdv ct : Value), PySem.W.findIn K (.ref C) x = some (some (.ref f)) ∧ PySem.W.isFn K (.ref f) = true ∧ K.lookup f = some ⟨oc, od, .func (PySem.W.fnOf x qual (defArgs st) (defBody st) (defScope st) .none kV doc pm an cdv ct), osl⟩ ∧ PySem.W.codeIn K cdv qual = true ∧ PySem.W.keepIn K (.ref f) = true
theorem methk {K : PySem.W.Frag} {C : Addr} {x qual : Str} {st : Stmt} {f : Addr} {oc : Value} {od : Option Addr} {osl : Array (Option Value)} {kV doc pm : Value} {an : Option Addr} {cdv ct : Value} (a : PySem.W.findIn K (.ref C) x = some (some (.ref f))) (i : PySem.W.isFn K (.ref f) = true) (l : K.lookup f = some ⟨oc, od, .func (PySem.W.fnOf x qual (defArgs st) (defBody st) (defScope st) .none kV doc pm an cdv ct), osl⟩) (c : PySem.W.codeIn K cdv qual = true) (k : PySem.W.keepIn K (.ref f) = true) : MethK K C x qual st := ⟨f, oc, od, osl, kV, doc, pm, an, cdv, ct, a, i, l, c, k⟩
theorem MethK.at_ {K : PySem.W.Frag} {C : Addr} {x qual : Str} {st : Stmt} {ps : List Str} (cl : Cls K C) (d : MethK K C x qual st) (hb : ∀ (kV doc pm : Value) (an : Option Addr) (cdv ct : Value) (us : List Value), us.length = ps.length → bindArgs (PySem.W.fnOf x qual (defArgs st) (defBody st) (defScope st) .none kV doc pm an cdv ct) ⟨us, []⟩ = pure (ps.zip us)) : ∃ (f : Addr) (fd : FuncData), MethAt K C x qual st ps f fd := by
  obtain ⟨f, oc, od, osl, kV, doc, pm, an, cdv, ct, a, i, l, c, k⟩ := d.ex
  have F := fun_mk (st := st) l c k
  exact ⟨f, _, F, cl, ⟨a, i, k⟩, F.binds hb⟩
theorem MethK.cls {K : PySem.W.Frag} {mg : Str → Option Value} {C : Addr} {x qual : Str} {st : Stmt} {ps fields : List Str} (cl : Cls K C) (hm : mg x = some (.ref C)) (mk : PySem.W.makesIn K C = true) (kc : PySem.W.keepIn K (.ref C) = true) (na : ∀ y ∈ fields, NoAttr K C y) (d : MethK K C "__init__" qual st) (hb : ∀ (kV doc pm : Value) (an : Option Addr) (cdv ct : Value) (us : List Value), us.length = ps.length → bindArgs (PySem.W.fnOf "__init__" qual (defArgs st) (defBody st) (defScope st) .none kV doc pm an cdv ct) ⟨us, []⟩ = pure (ps.zip us)) : ∃ (f : Addr) (fd : FuncData), ClsAt K mg C x qual st ps fields f fd := by
  obtain ⟨f, oc, od, osl, kV, doc, pm, an, cdv, ct, a, i, l, c, k⟩ := d.ex
  have F := fun_mk (st := st) l c k
  exact ⟨f, _, F, hm, ⟨mk, a, i, kc⟩, cl, na, F.binds hb⟩
structure ClsK (K : PySem.W.Frag) (C : Addr) (x : Str) : Prop where
  a : PySem.W.nsIn K mainGlobals x = some (some (.ref C))
  pg : PySem.W.plainGet K C Str.empty = true
  hd : PySem.W.hasDictIn K C = true
  po : PySem.W.plainOver K C = true
  sa : PySem.W.findIn K (.ref C) "__setattr__" = some (some (.builtin "object.__setattr__"))
  mks : PySem.W.makesIn K C = true
  kc : PySem.W.keepIn K (.ref C) = true
theorem ClsK.c {K : PySem.W.Frag} {C : Addr} {x : Str} (k : ClsK K C x) : Cls K C := ⟨k.pg, k.hd, k.po, k.sa⟩
theorem gc_int {K : PySem.W.Frag} {h : Heap} {mg : Str → Option Value} {x : Str} {i : Int} {t : Tok} (X : K.In h) (G : h.Ns mainGlobals mg) (a : PySem.W.nsIn K mainGlobals x = some (some (.int i t))) : GC K mg x (.int i) := ⟨.int i, _, PySem.W.mg_of X G a, ⟨t, rfl⟩, fun _ => .int i⟩

theorem dp_tup {K : PySem.W.Frag} {H : Hp} {z : Addr} {od : Option Addr} {its : Array Value} {n : Nat} {osl : Array (Option Value)} {vs : List V} {ds : List PyData} (l : K.lookup z = some ⟨.type "tuple", od, .seq its n, osl⟩) (hs : its.size ≤ sizeLine) (hv : Vals vs its.toList) (hd : DpAll K H vs ds) : Dp K H (.ref z) (.tuple ds) := .tup (.inr ⟨_, its, n, l, rfl, rfl, hs, hv⟩) hd
theorem gc_num {K : PySem.W.Frag} {h : Heap} {mg : Str → Option Value} {x : Str} {z : Addr} {od : Option Addr} {i j : Int} {t1 t2 : Tok} {n : Nat} {osl : Array (Option Value)} (X : K.In h) (G : h.Ns mainGlobals mg) (a : PySem.W.nsIn K mainGlobals x = some (some (.ref z))) (l : K.lookup z = some ⟨.type "tuple", od, .seq #[.int i t1, .int j t2] n, osl⟩) : GC K mg x (.tuple [.int i, .int j]) :=
  ⟨.ref z, _, PySem.W.mg_of X G a, rfl, fun H => dp_tup (vs := [.int i, .int j]) l (show _ ≤ sizeLine from Nat.le_of_ble_eq_true rfl) (.cons ⟨t1, rfl⟩ (.cons ⟨t2, rfl⟩ .nil)) (.cons (.int i) (.cons (.int j) .nil))⟩
theorem gc_cut {K : PySem.W.Frag} {h : Heap} {mg : Str → Option Value} {x : Str} {z y : Addr} {od od2 : Option Addr} {i j k s : Int} {t1 t2 t3 t4 : Tok} {n n2 : Nat} {osl osl2 : Array (Option Value)} (X : K.In h) (G : h.Ns mainGlobals mg) (a : PySem.W.nsIn K mainGlobals x = some (some (.ref z))) (l : K.lookup z = some ⟨.type "tuple", od, .seq #[.int k t1, .ref y, .int s t2] n, osl⟩) (l2 : K.lookup y = some ⟨.type "tuple", od2, .seq #[.int i t3, .int j t4] n2, osl2⟩) : GC K mg x (.tuple [.int k, .tuple [.int i, .int j], .int s]) :=
  ⟨.ref z, _, PySem.W.mg_of X G a, rfl, fun H => dp_tup (vs := [.int k, .ref y, .int s]) l (show _ ≤ sizeLine from Nat.le_of_ble_eq_true rfl) (.cons ⟨t1, rfl⟩ (.cons rfl (.cons ⟨t2, rfl⟩ .nil))) (.cons (.int k) (.cons (dp_tup (vs := [.int i, .int j]) l2 (show _ ≤ sizeLine from Nat.le_of_ble_eq_true rfl) (.cons ⟨t3, rfl⟩ (.cons ⟨t4, rfl⟩ .nil)) (.cons (.int i) (.cons (.int j) .nil))) (.cons (.int s) .nil)))⟩

theorem all_mk (HA : ∀ f, okF f → AllOk f) {l : PySem.W.OpenLaw} {w : World} {K : PySem.W.Frag} {h : Heap} {mg : Str → Option Value} {fa : Addr} (X : K.In h) (G : h.Ns mainGlobals mg) (hfa : mg "law" = some (.ref fa))
    (n_abs : PySem.W.nsIn K mainGlobals "abs" = some none)
    (n_len : PySem.W.nsIn K mainGlobals "len" = some none)
    (n_isinstance : PySem.W.nsIn K mainGlobals "isinstance" = some none)
    (n_int : PySem.W.nsIn K mainGlobals "int" = some none)
    (n_bool : PySem.W.nsIn K mainGlobals "bool" = some none)
    (n_tuple : PySem.W.nsIn K mainGlobals "tuple" = some none)
    (n_list : PySem.W.nsIn K mainGlobals "list" = some none)
    (n_all : PySem.W.nsIn K mainGlobals "all" = some none)
    (n_any : PySem.W.nsIn K mainGlobals "any" = some none)
    (n_sum : PySem.W.nsIn K mainGlobals "sum" = some none)
    (n_zip : PySem.W.nsIn K mainGlobals "zip" = some none)
    (n_enumerate : PySem.W.nsIn K mainGlobals "enumerate" = some none)
    (n_range : PySem.W.nsIn K mainGlobals "range" = some none)
    (n_max : PySem.W.nsIn K mainGlobals "max" = some none)
    (n_min : PySem.W.nsIn K mainGlobals "min" = some none)
    {z_zero : Addr} {od_zero : Option Addr} {t1_zero t2_zero : Tok} {n_zero : Nat} {sl_zero : Array (Option Value)}
    (a_zero : PySem.W.nsIn K mainGlobals "ZERO" = some (some (.ref z_zero)))
    (l_zero : K.lookup z_zero = some ⟨.type "tuple", od_zero, .seq #[.int 0 t1_zero, .int 1 t2_zero] n_zero, sl_zero⟩)
    {z_one : Addr} {od_one : Option Addr} {t1_one t2_one : Tok} {n_one : Nat} {sl_one : Array (Option Value)}
    (a_one : PySem.W.nsIn K mainGlobals "ONE" = some (some (.ref z_one)))
    (l_one : K.lookup z_one = some ⟨.type "tuple", od_one, .seq #[.int 1 t1_one, .int 1 t2_one] n_one, sl_one⟩)
    {z_bot y_bot : Addr} {od_bot od2_bot : Option Addr} {t1_bot t2_bot t3_bot t4_bot : Tok} {n_bot n2_bot : Nat} {sl_bot sl2_bot : Array (Option Value)}
    (a_bot : PySem.W.nsIn K mainGlobals "BOTTOM" = some (some (.ref z_bot)))
    (l_bot : K.lookup z_bot = some ⟨.type "tuple", od_bot, .seq #[.int (-1) t1_bot, .ref y_bot, .int 0 t2_bot] n_bot, sl_bot⟩)
    (m_bot : K.lookup y_bot = some ⟨.type "tuple", od2_bot, .seq #[.int 0 t3_bot, .int 1 t4_bot] n2_bot, sl2_bot⟩)
    {z_top y_top : Addr} {od_top od2_top : Option Addr} {t1_top t2_top t3_top t4_top : Tok} {n_top n2_top : Nat} {sl_top sl2_top : Array (Option Value)}
    (a_top : PySem.W.nsIn K mainGlobals "TOP" = some (some (.ref z_top)))
    (l_top : K.lookup z_top = some ⟨.type "tuple", od_top, .seq #[.int (1) t1_top, .ref y_top, .int 0 t2_top] n_top, sl_top⟩)
    (m_top : K.lookup y_top = some ⟨.type "tuple", od2_top, .seq #[.int 0 t3_top, .int 1 t4_top] n2_top, sl2_top⟩)
    {t_parts t_count : Tok} (a_parts : PySem.W.nsIn K mainGlobals "MAX_PARTS" = some (some (.int 8 t_parts))) (a_count : PySem.W.nsIn K mainGlobals "MAX_COUNT" = some (some (.int 9 t_count)))
    {CRanges : Addr} (k_Ranges : ClsK K CRanges "Ranges")
    (na_Ranges_pairs : PySem.W.findIn K (.ref CRanges) "pairs" = some none)
    (na_Ranges_ranges : PySem.W.findIn K (.ref CRanges) "ranges" = some none)
    {CCurve : Addr} (k_Curve : ClsK K CCurve "Curve")
    (na_Curve_nodes : PySem.W.findIn K (.ref CCurve) "nodes" = some none)
    {CSpread : Addr} (k_Spread : ClsK K CSpread "Spread")
    (na_Spread_rows : PySem.W.findIn K (.ref CSpread) "rows" = some none)
    (sf_Ranges : PySem.W.selfFirst K CRanges = true)
    (sf_Curve : PySem.W.selfFirst K CCurve = true)
    {fcall : Addr} (a_call : PySem.W.findIn K (.ref CCurve) "__call__" = some (some (.ref fcall))) (i_call : PySem.W.fnIn K fcall = true)
    (d_commondivisor : DefK K "common_divisor" sCd)
    (d_exact : DefK K "exact" sExact)
    (d_isinteger : DefK K "is_integer" sIsint)
    (d_isnumber : DefK K "is_number" sIsnum)
    (d_plus : DefK K "plus" sPlus)
    (d_negative : DefK K "negative" sNeg)
    (d_minus : DefK K "minus" sMinus)
    (d_product : DefK K "product" sProd)
    (d_quotient : DefK K "quotient" sQuot)
    (d_isless : DefK K "is_less" sLess)
    (d_largerof : DefK K "larger_of" sMax)
    (d_smallerof : DefK K "smaller_of" sMin)
    (d_below : DefK K "below" sBelow)
    (d_above : DefK K "above" sAbove)
    (d_comesbefore : DefK K "comes_before" sCb)
    (d_latercut : DefK K "later_cut" sLater)
    (d_earliercut : DefK K "earlier_cut" sEarlier)
    (d_isend : DefK K "is_end" sIsend)
    (d_cutsof : DefK K "cuts_of" sCuts)
    (d_isrange : DefK K "is_range" sIsrange)
    (d_rangeof : DefK K "range_of" sRangeof)
    (d_inorder : DefK K "in_order" sOrd)
    (d_joinedpairs : DefK K "joined_pairs" sJoin)
    (d_liesbetween : DefK K "lies_between" sLies)
    (d_Ranges : MethK K CRanges "__init__" "Ranges.__init__" sRinit)
    (d_betweencuts : DefK K "between_cuts" sBtw)
    (d_Rangescontains : MethK K CRanges "__contains__" "Ranges.__contains__" sIn)
    (d_Rangesor : MethK K CRanges "__or__" "Ranges.__or__" sOr)
    (d_Rangesand : MethK K CRanges "__and__" "Ranges.__and__" sAnd)
    (d_Rangesoutside : MethK K CRanges "outside" "Ranges.outside" sOut)
    (d_checkincome : DefK K "check_income" sChk)
    (d_reachedby : DefK K "reached_by" sReach)
    (d_arenodes : DefK K "are_nodes" sNodes)
    (d_nodenear : DefK K "node_near" sNear)
    (d_Curve : MethK K CCurve "__init__" "Curve.__init__" sCinit)
    (d_Curvecall : MethK K CCurve "__call__" "Curve.__call__" sCcall)
    (d_scaledcurve : DefK K "scaled_curve" sScaled)
    (d_inascendingorder : DefK K "in_ascending_order" sAsc)
    (d_allincomes : DefK K "all_incomes" sAllx)
    (d_nodesum : DefK K "node_sum" sNsum)
    (d_sumof : DefK K "sum_of" sSum)
    (d_Curveadd : MethK K CCurve "__add__" "Curve.__add__" sCadd)
    (d_Curvesub : MethK K CCurve "__sub__" "Curve.__sub__" sCsub)
    (d_Curvetimes : MethK K CCurve "times" "Curve.times" sTimes)
    (d_largerpiece : DefK K "larger_piece" sPiece)
    (d_crossing : DefK K "crossing" sCross)
    (d_largercurve : DefK K "larger_curve" sLarger)
    (d_Curvelarger : MethK K CCurve "larger" "Curve.larger" sClarger)
    (d_ispart : DefK K "is_part" sIspart)
    (d_Spread : MethK K CSpread "__init__" "Spread.__init__" sSinit)
    (d_Spreadhouseholds : MethK K CSpread "households" "Spread.households" sHous)
    (d_area : DefK K "area" sArea)
    (d_partmean : DefK K "part_mean" sPm)
    (d_mean : DefK K "mean" sMean)
    (d_lengthwithin : DefK K "length_within" sLen)
    (d_share : DefK K "share" sShare)
    (d_Lfeed : DefK K "_law_feed" sFeed)
    (d_Ltake : DefK K "_law_take" sTake)
    (d_Lpick : DefK K "_law_pick" sPick)
    (d_Ldivisor : DefK K "_law_divisor" sLdiv)
    (d_Lnumber : DefK K "_law_number" sLnum)
    (d_Lplus : DefK K "_law_plus" sLplus)
    (d_Lminus : DefK K "_law_minus" sLminus)
    (d_Lby : DefK K "_law_by" sLby)
    (d_Lless : DefK K "_law_less" sLless)
    (d_Lsomenumber : DefK K "_law_some_number" sSome)
    (d_Lline : DefK K "_law_line" sLine)
    (d_Lneeded : DefK K "_law_needed" sNeed)
    (d_Lfew : DefK K "_law_few" sFew)
    (d_Lparts : DefK K "_law_parts" sParts)
    (d_Lcutright : DefK K "_law_cut_right" sCutr)
    (d_Lsharesright : DefK K "_law_shares_right" sShr)
    (d_law : DefK K "law" sLaw)
    : ∃ fd : FuncData, (∀ (s : Shared) (v : Value), BindsTo s fd ⟨[v], []⟩ [("_law_script", v)]) ∧ ∀ base : Heap, K.In base → base.Ns mainGlobals mg → FnOk l.prog w K mg base CX0 11 fa fd ["_law_script"] (spP K R_law) := by
  have N : NoG mg := ⟨PySem.W.mg_none_of X G n_abs, PySem.W.mg_none_of X G n_len, PySem.W.mg_none_of X G n_isinstance, PySem.W.mg_none_of X G n_int, PySem.W.mg_none_of X G n_bool, PySem.W.mg_none_of X G n_tuple, PySem.W.mg_none_of X G n_list, PySem.W.mg_none_of X G n_all, PySem.W.mg_none_of X G n_any, PySem.W.mg_none_of X G n_sum, PySem.W.mg_none_of X G n_zip, PySem.W.mg_none_of X G n_enumerate, PySem.W.mg_none_of X G n_range, PySem.W.mg_none_of X G n_max, PySem.W.mg_none_of X G n_min⟩
  have Cn : Consts K mg := ⟨gc_num X G a_zero l_zero, gc_num X G a_one l_one, gc_cut X G a_bot l_bot m_bot, gc_cut X G a_top l_top m_top, gc_int X G a_parts, gc_int X G a_count⟩
  have hfi : ∀ g, PySem.W.findIn K (.ref CCurve) "__call__" = some (some (.ref g)) → PySem.W.fnIn K g = true := fun g e => by
    rw [a_call] at e
    cases e
    exact i_call
  have GRanges : RgCls K CRanges := ⟨k_Ranges.c, na_Ranges_pairs, na_Ranges_ranges, sf_Ranges⟩
  have GCurve : CuCls K CCurve := ⟨k_Curve.c, na_Curve_nodes, sf_Curve⟩
  have GSpread : SpCls K CSpread := ⟨k_Spread.c, na_Spread_rows⟩
  obtain ⟨f_commondivisor, fd_commondivisor, D_commondivisor⟩ := d_commondivisor.at_ (ps := ["first", "second"]) X G (fun _ _ _ _ _ _ us hl => match us, hl with | [_, _], _ => rfl)
  obtain ⟨f_exact, fd_exact, D_exact⟩ := d_exact.at_ (ps := ["top", "bottom"]) X G (fun _ _ _ _ _ _ us hl => match us, hl with | [_, _], _ => rfl)
  obtain ⟨f_isinteger, fd_isinteger, D_isinteger⟩ := d_isinteger.at_ (ps := ["value"]) X G (fun _ _ _ _ _ _ us hl => match us, hl with | [_], _ => rfl)
  obtain ⟨f_isnumber, fd_isnumber, D_isnumber⟩ := d_isnumber.at_ (ps := ["value"]) X G (fun _ _ _ _ _ _ us hl => match us, hl with | [_], _ => rfl)
  obtain ⟨f_plus, fd_plus, D_plus⟩ := d_plus.at_ (ps := ["first", "second"]) X G (fun _ _ _ _ _ _ us hl => match us, hl with | [_, _], _ => rfl)
  obtain ⟨f_negative, fd_negative, D_negative⟩ := d_negative.at_ (ps := ["number"]) X G (fun _ _ _ _ _ _ us hl => match us, hl with | [_], _ => rfl)
  obtain ⟨f_minus, fd_minus, D_minus⟩ := d_minus.at_ (ps := ["first", "second"]) X G (fun _ _ _ _ _ _ us hl => match us, hl with | [_, _], _ => rfl)
  obtain ⟨f_product, fd_product, D_product⟩ := d_product.at_ (ps := ["first", "second"]) X G (fun _ _ _ _ _ _ us hl => match us, hl with | [_, _], _ => rfl)
  obtain ⟨f_quotient, fd_quotient, D_quotient⟩ := d_quotient.at_ (ps := ["first", "second"]) X G (fun _ _ _ _ _ _ us hl => match us, hl with | [_, _], _ => rfl)
  obtain ⟨f_isless, fd_isless, D_isless⟩ := d_isless.at_ (ps := ["first", "second"]) X G (fun _ _ _ _ _ _ us hl => match us, hl with | [_, _], _ => rfl)
  obtain ⟨f_largerof, fd_largerof, D_largerof⟩ := d_largerof.at_ (ps := ["first", "second"]) X G (fun _ _ _ _ _ _ us hl => match us, hl with | [_, _], _ => rfl)
  obtain ⟨f_smallerof, fd_smallerof, D_smallerof⟩ := d_smallerof.at_ (ps := ["first", "second"]) X G (fun _ _ _ _ _ _ us hl => match us, hl with | [_, _], _ => rfl)
  obtain ⟨f_below, fd_below, D_below⟩ := d_below.at_ (ps := ["number"]) X G (fun _ _ _ _ _ _ us hl => match us, hl with | [_], _ => rfl)
  obtain ⟨f_above, fd_above, D_above⟩ := d_above.at_ (ps := ["number"]) X G (fun _ _ _ _ _ _ us hl => match us, hl with | [_], _ => rfl)
  obtain ⟨f_comesbefore, fd_comesbefore, D_comesbefore⟩ := d_comesbefore.at_ (ps := ["first", "second"]) X G (fun _ _ _ _ _ _ us hl => match us, hl with | [_, _], _ => rfl)
  obtain ⟨f_latercut, fd_latercut, D_latercut⟩ := d_latercut.at_ (ps := ["first", "second"]) X G (fun _ _ _ _ _ _ us hl => match us, hl with | [_, _], _ => rfl)
  obtain ⟨f_earliercut, fd_earliercut, D_earliercut⟩ := d_earliercut.at_ (ps := ["first", "second"]) X G (fun _ _ _ _ _ _ us hl => match us, hl with | [_, _], _ => rfl)
  obtain ⟨f_isend, fd_isend, D_isend⟩ := d_isend.at_ (ps := ["number", "is_with"]) X G (fun _ _ _ _ _ _ us hl => match us, hl with | [_, _], _ => rfl)
  obtain ⟨f_cutsof, fd_cutsof, D_cutsof⟩ := d_cutsof.at_ (ps := ["one"]) X G (fun _ _ _ _ _ _ us hl => match us, hl with | [_], _ => rfl)
  obtain ⟨f_isrange, fd_isrange, D_isrange⟩ := d_isrange.at_ (ps := ["value"]) X G (fun _ _ _ _ _ _ us hl => match us, hl with | [_], _ => rfl)
  obtain ⟨f_rangeof, fd_rangeof, D_rangeof⟩ := d_rangeof.at_ (ps := ["low", "high"]) X G (fun _ _ _ _ _ _ us hl => match us, hl with | [_, _], _ => rfl)
  obtain ⟨f_inorder, fd_inorder, D_inorder⟩ := d_inorder.at_ (ps := ["pairs"]) X G (fun _ _ _ _ _ _ us hl => match us, hl with | [_], _ => rfl)
  obtain ⟨f_joinedpairs, fd_joinedpairs, D_joinedpairs⟩ := d_joinedpairs.at_ (ps := ["pairs"]) X G (fun _ _ _ _ _ _ us hl => match us, hl with | [_], _ => rfl)
  obtain ⟨f_liesbetween, fd_liesbetween, D_liesbetween⟩ := d_liesbetween.at_ (ps := ["number", "low", "high"]) X G (fun _ _ _ _ _ _ us hl => match us, hl with | [_, _, _], _ => rfl)
  obtain ⟨f_Ranges, fd_Ranges, D_Ranges⟩ := MethK.cls (x := "Ranges") (ps := ["self", "ranges"]) (fields := ["pairs", "ranges"]) k_Ranges.c (PySem.W.mg_of X G k_Ranges.a) k_Ranges.mks k_Ranges.kc (fun y hy => by simp only [List.mem_cons, List.not_mem_nil, or_false] at hy; rcases hy with rfl | rfl <;> first | exact na_Ranges_pairs | exact na_Ranges_ranges) d_Ranges (fun _ _ _ _ _ _ us hl => match us, hl with | [_, _], _ => rfl)
  obtain ⟨f_betweencuts, fd_betweencuts, D_betweencuts⟩ := d_betweencuts.at_ (ps := ["pairs"]) X G (fun _ _ _ _ _ _ us hl => match us, hl with | [_], _ => rfl)
  obtain ⟨f_Rangescontains, fd_Rangescontains, D_Rangescontains⟩ := d_Rangescontains.at_ (ps := ["self", "number"]) k_Ranges.c (fun _ _ _ _ _ _ us hl => match us, hl with | [_, _], _ => rfl)
  obtain ⟨f_Rangesor, fd_Rangesor, D_Rangesor⟩ := d_Rangesor.at_ (ps := ["self", "other"]) k_Ranges.c (fun _ _ _ _ _ _ us hl => match us, hl with | [_, _], _ => rfl)
  obtain ⟨f_Rangesand, fd_Rangesand, D_Rangesand⟩ := d_Rangesand.at_ (ps := ["self", "other"]) k_Ranges.c (fun _ _ _ _ _ _ us hl => match us, hl with | [_, _], _ => rfl)
  obtain ⟨f_Rangesoutside, fd_Rangesoutside, D_Rangesoutside⟩ := d_Rangesoutside.at_ (ps := ["self"]) k_Ranges.c (fun _ _ _ _ _ _ us hl => match us, hl with | [_], _ => rfl)
  obtain ⟨f_checkincome, fd_checkincome, D_checkincome⟩ := d_checkincome.at_ (ps := ["income"]) X G (fun _ _ _ _ _ _ us hl => match us, hl with | [_], _ => rfl)
  obtain ⟨f_reachedby, fd_reachedby, D_reachedby⟩ := d_reachedby.at_ (ps := ["node", "income"]) X G (fun _ _ _ _ _ _ us hl => match us, hl with | [_, _], _ => rfl)
  obtain ⟨f_arenodes, fd_arenodes, D_arenodes⟩ := d_arenodes.at_ (ps := ["value"]) X G (fun _ _ _ _ _ _ us hl => match us, hl with | [_], _ => rfl)
  obtain ⟨f_nodenear, fd_nodenear, D_nodenear⟩ := d_nodenear.at_ (ps := ["nodes", "income"]) X G (fun _ _ _ _ _ _ us hl => match us, hl with | [_, _], _ => rfl)
  obtain ⟨f_Curve, fd_Curve, D_Curve⟩ := MethK.cls (x := "Curve") (ps := ["self", "nodes"]) (fields := ["nodes"]) k_Curve.c (PySem.W.mg_of X G k_Curve.a) k_Curve.mks k_Curve.kc (fun y hy => by obtain rfl := List.mem_singleton.mp hy; exact na_Curve_nodes) d_Curve (fun _ _ _ _ _ _ us hl => match us, hl with | [_, _], _ => rfl)
  obtain ⟨f_Curvecall, fd_Curvecall, D_Curvecall⟩ := d_Curvecall.at_ (ps := ["self", "income"]) k_Curve.c (fun _ _ _ _ _ _ us hl => match us, hl with | [_, _], _ => rfl)
  obtain ⟨f_scaledcurve, fd_scaledcurve, D_scaledcurve⟩ := d_scaledcurve.at_ (ps := ["curve", "number"]) X G (fun _ _ _ _ _ _ us hl => match us, hl with | [_, _], _ => rfl)
  obtain ⟨f_inascendingorder, fd_inascendingorder, D_inascendingorder⟩ := d_inascendingorder.at_ (ps := ["numbers"]) X G (fun _ _ _ _ _ _ us hl => match us, hl with | [_], _ => rfl)
  obtain ⟨f_allincomes, fd_allincomes, D_allincomes⟩ := d_allincomes.at_ (ps := ["first", "second"]) X G (fun _ _ _ _ _ _ us hl => match us, hl with | [_, _], _ => rfl)
  obtain ⟨f_nodesum, fd_nodesum, D_nodesum⟩ := d_nodesum.at_ (ps := ["first", "second", "income"]) X G (fun _ _ _ _ _ _ us hl => match us, hl with | [_, _, _], _ => rfl)
  obtain ⟨f_sumof, fd_sumof, D_sumof⟩ := d_sumof.at_ (ps := ["first", "second"]) X G (fun _ _ _ _ _ _ us hl => match us, hl with | [_, _], _ => rfl)
  obtain ⟨f_Curveadd, fd_Curveadd, D_Curveadd⟩ := d_Curveadd.at_ (ps := ["self", "other"]) k_Curve.c (fun _ _ _ _ _ _ us hl => match us, hl with | [_, _], _ => rfl)
  obtain ⟨f_Curvesub, fd_Curvesub, D_Curvesub⟩ := d_Curvesub.at_ (ps := ["self", "other"]) k_Curve.c (fun _ _ _ _ _ _ us hl => match us, hl with | [_, _], _ => rfl)
  obtain ⟨f_Curvetimes, fd_Curvetimes, D_Curvetimes⟩ := d_Curvetimes.at_ (ps := ["self", "number"]) k_Curve.c (fun _ _ _ _ _ _ us hl => match us, hl with | [_, _], _ => rfl)
  obtain ⟨f_largerpiece, fd_largerpiece, D_largerpiece⟩ := d_largerpiece.at_ (ps := ["first", "second"]) X G (fun _ _ _ _ _ _ us hl => match us, hl with | [_, _], _ => rfl)
  obtain ⟨f_crossing, fd_crossing, D_crossing⟩ := d_crossing.at_ (ps := ["income", "first", "second"]) X G (fun _ _ _ _ _ _ us hl => match us, hl with | [_, _, _], _ => rfl)
  obtain ⟨f_largercurve, fd_largercurve, D_largercurve⟩ := d_largercurve.at_ (ps := ["first", "second"]) X G (fun _ _ _ _ _ _ us hl => match us, hl with | [_, _], _ => rfl)
  obtain ⟨f_Curvelarger, fd_Curvelarger, D_Curvelarger⟩ := d_Curvelarger.at_ (ps := ["self", "other"]) k_Curve.c (fun _ _ _ _ _ _ us hl => match us, hl with | [_, _], _ => rfl)
  obtain ⟨f_ispart, fd_ispart, D_ispart⟩ := d_ispart.at_ (ps := ["value"]) X G (fun _ _ _ _ _ _ us hl => match us, hl with | [_], _ => rfl)
  obtain ⟨f_Spread, fd_Spread, D_Spread⟩ := MethK.cls (x := "Spread") (ps := ["self", "parts"]) (fields := ["rows"]) k_Spread.c (PySem.W.mg_of X G k_Spread.a) k_Spread.mks k_Spread.kc (fun y hy => by obtain rfl := List.mem_singleton.mp hy; exact na_Spread_rows) d_Spread (fun _ _ _ _ _ _ us hl => match us, hl with | [_, _], _ => rfl)
  obtain ⟨f_Spreadhouseholds, fd_Spreadhouseholds, D_Spreadhouseholds⟩ := d_Spreadhouseholds.at_ (ps := ["self"]) k_Spread.c (fun _ _ _ _ _ _ us hl => match us, hl with | [_], _ => rfl)
  obtain ⟨f_area, fd_area, D_area⟩ := d_area.at_ (ps := ["curve", "low", "high"]) X G (fun _ _ _ _ _ _ us hl => match us, hl with | [_, _, _], _ => rfl)
  obtain ⟨f_partmean, fd_partmean, D_partmean⟩ := d_partmean.at_ (ps := ["curve", "low", "high"]) X G (fun _ _ _ _ _ _ us hl => match us, hl with | [_, _, _], _ => rfl)
  obtain ⟨f_mean, fd_mean, D_mean⟩ := d_mean.at_ (ps := ["curve", "spread"]) X G (fun _ _ _ _ _ _ us hl => match us, hl with | [_, _], _ => rfl)
  obtain ⟨f_lengthwithin, fd_lengthwithin, D_lengthwithin⟩ := d_lengthwithin.at_ (ps := ["ranges", "low", "high"]) X G (fun _ _ _ _ _ _ us hl => match us, hl with | [_, _, _], _ => rfl)
  obtain ⟨f_share, fd_share, D_share⟩ := d_share.at_ (ps := ["ranges", "spread"]) X G (fun _ _ _ _ _ _ us hl => match us, hl with | [_, _], _ => rfl)
  obtain ⟨f_Lfeed, fd_Lfeed, D_Lfeed⟩ := d_Lfeed.at_ (ps := ["_law_script", "_law_k"]) X G (fun _ _ _ _ _ _ us hl => match us, hl with | [_, _], _ => rfl)
  obtain ⟨f_Ltake, fd_Ltake, D_Ltake⟩ := d_Ltake.at_ (ps := ["_law_feed_here", "_law_size"]) X G (fun _ _ _ _ _ _ us hl => match us, hl with | [_, _], _ => rfl)
  obtain ⟨f_Lpick, fd_Lpick, D_Lpick⟩ := d_Lpick.at_ (ps := ["_law_feed_here", "_law_choices"]) X G (fun _ _ _ _ _ _ us hl => match us, hl with | [_, _], _ => rfl)
  obtain ⟨f_Ldivisor, fd_Ldivisor, D_Ldivisor⟩ := d_Ldivisor.at_ (ps := ["_law_first", "_law_second"]) X G (fun _ _ _ _ _ _ us hl => match us, hl with | [_, _], _ => rfl)
  obtain ⟨f_Lnumber, fd_Lnumber, D_Lnumber⟩ := d_Lnumber.at_ (ps := ["_law_top", "_law_bottom"]) X G (fun _ _ _ _ _ _ us hl => match us, hl with | [_, _], _ => rfl)
  obtain ⟨f_Lplus, fd_Lplus, D_Lplus⟩ := d_Lplus.at_ (ps := ["_law_first", "_law_second"]) X G (fun _ _ _ _ _ _ us hl => match us, hl with | [_, _], _ => rfl)
  obtain ⟨f_Lminus, fd_Lminus, D_Lminus⟩ := d_Lminus.at_ (ps := ["_law_first", "_law_second"]) X G (fun _ _ _ _ _ _ us hl => match us, hl with | [_, _], _ => rfl)
  obtain ⟨f_Lby, fd_Lby, D_Lby⟩ := d_Lby.at_ (ps := ["_law_first", "_law_second"]) X G (fun _ _ _ _ _ _ us hl => match us, hl with | [_, _], _ => rfl)
  obtain ⟨f_Lless, fd_Lless, D_Lless⟩ := d_Lless.at_ (ps := ["_law_first", "_law_second"]) X G (fun _ _ _ _ _ _ us hl => match us, hl with | [_, _], _ => rfl)
  obtain ⟨f_Lsomenumber, fd_Lsomenumber, D_Lsomenumber⟩ := d_Lsomenumber.at_ (ps := ["_law_feed_here"]) X G (fun _ _ _ _ _ _ us hl => match us, hl with | [_], _ => rfl)
  obtain ⟨f_Lline, fd_Lline, D_Lline⟩ := d_Lline.at_ (ps := ["_law_node", "_law_x"]) X G (fun _ _ _ _ _ _ us hl => match us, hl with | [_, _], _ => rfl)
  obtain ⟨f_Lneeded, fd_Lneeded, D_Lneeded⟩ := d_Lneeded.at_ (ps := ["_law_nodes"]) X G (fun _ _ _ _ _ _ us hl => match us, hl with | [_], _ => rfl)
  obtain ⟨f_Lfew, fd_Lfew, D_Lfew⟩ := d_Lfew.at_ (ps := ["_law_feed_here", "_law_most_here"]) X G (fun _ _ _ _ _ _ us hl => match us, hl with | [_, _], _ => rfl)
  obtain ⟨f_Lparts, fd_Lparts, D_Lparts⟩ := d_Lparts.at_ (ps := ["_law_feed_here"]) X G (fun _ _ _ _ _ _ us hl => match us, hl with | [_], _ => rfl)
  obtain ⟨f_Lcutright, fd_Lcutright, D_Lcutright⟩ := d_Lcutright.at_ (ps := ["_law_feed_here", "_law_nodes", "_law_curve"]) X G (fun _ _ _ _ _ _ us hl => match us, hl with | [_, _, _], _ => rfl)
  obtain ⟨f_Lsharesright, fd_Lsharesright, D_Lsharesright⟩ := d_Lsharesright.at_ (ps := ["_law_feed_here", "_law_spread"]) X G (fun _ _ _ _ _ _ us hl => match us, hl with | [_, _], _ => rfl)
  obtain ⟨f_law, fd_law, D_law⟩ := d_law.at_ (ps := ["_law_script"]) X G (fun _ _ _ _ _ _ us hl => match us, hl with | [_], _ => rfl)
  have ef : f_law = fa := by
    have e := D_law.m.symm.trans hfa
    cases e
    rfl
  subst ef
  obtain ⟨oc, od, kV, doc, pm, an, cdv, ct, osl, e, _, _⟩ := D_law.F.ex
  refine ⟨fd_law, fun s v => ?_, fun base _ _ => ?_⟩
  · rw [e]
    exact .of_eq rfl
  · have C_commondivisor := c_cd (P := l.prog) (w := w) (base := base) D_commondivisor N
    have C_exact := c_exact (P := l.prog) (w := w) (base := base) D_exact C_commondivisor
    have C_isinteger := c_isint (P := l.prog) (w := w) (base := base) D_isinteger N
    have C_isnumber := c_isnum (P := l.prog) (w := w) (base := base) D_isnumber N C_isinteger C_commondivisor
    have C_plus := c_plus (P := l.prog) (w := w) (base := base) D_plus C_exact
    have C_negative := c_neg (P := l.prog) (w := w) (base := base) D_negative
    have C_minus := c_minus (P := l.prog) (w := w) (base := base) D_minus C_plus C_negative
    have C_product := c_prod (P := l.prog) (w := w) (base := base) D_product C_exact
    have C_quotient := c_quot (P := l.prog) (w := w) (base := base) D_quotient C_exact
    have C_isless := c_less (P := l.prog) (w := w) (base := base) D_isless
    have C_largerof := c_max (P := l.prog) (w := w) (base := base) D_largerof C_isless
    have C_smallerof := c_min (P := l.prog) (w := w) (base := base) D_smallerof C_isless
    have C_below := c_below (P := l.prog) (w := w) (base := base) D_below
    have C_above := c_above (P := l.prog) (w := w) (base := base) D_above
    have C_comesbefore := c_cb (P := l.prog) (w := w) (base := base) D_comesbefore C_isless
    have C_latercut := c_later (P := l.prog) (w := w) (base := base) D_latercut C_comesbefore
    have C_earliercut := c_earlier (P := l.prog) (w := w) (base := base) D_earliercut C_comesbefore
    have C_isend := c_isend (P := l.prog) (w := w) (base := base) D_isend N C_isnumber
    have C_cutsof := c_cuts (P := l.prog) (w := w) (base := base) D_cutsof Cn
    have C_isrange := c_isrange (P := l.prog) (w := w) (base := base) D_isrange N C_isend C_cutsof C_comesbefore
    have C_rangeof := c_rangeof (P := l.prog) (w := w) (base := base) D_rangeof
    have C_inorder := c_ord (P := l.prog) (w := w) (base := base) D_inorder N C_comesbefore
    have C_joinedpairs := c_join (P := l.prog) (w := w) (base := base) D_joinedpairs N C_comesbefore C_inorder C_latercut
    have C_liesbetween := c_lies (P := l.prog) (w := w) (base := base) D_liesbetween C_comesbefore C_below C_above
    have C_Ranges := c_rinit (P := l.prog) (w := w) (base := base) D_Ranges N C_isrange C_joinedpairs C_cutsof C_rangeof
    have C_betweencuts := c_btw (P := l.prog) (w := w) (base := base) D_betweencuts C_Ranges C_rangeof C_comesbefore
    have C_Rangescontains := c_in (P := l.prog) (w := w) (base := base) D_Rangescontains N GRanges C_liesbetween
    have C_Rangesor := c_or (P := l.prog) (w := w) (base := base) D_Rangesor GRanges C_betweencuts
    have C_Rangesand := c_and (P := l.prog) (w := w) (base := base) D_Rangesand GRanges C_betweencuts C_latercut C_earliercut
    have C_Rangesoutside := c_out (P := l.prog) (w := w) (base := base) D_Rangesoutside GRanges Cn C_betweencuts
    have C_checkincome := c_chk (P := l.prog) (w := w) (base := base) D_checkincome Cn C_isnumber C_isless
    have C_reachedby := c_reach (P := l.prog) (w := w) (base := base) D_reachedby C_plus C_product C_minus
    have C_arenodes := c_nodes (P := l.prog) (w := w) (base := base) D_arenodes N Cn C_isnumber C_isless
    have C_nodenear := c_near (P := l.prog) (w := w) (base := base) D_nodenear C_isless C_reachedby
    have C_Curve := c_cinit (P := l.prog) (w := w) (base := base) D_Curve N C_arenodes C_reachedby
    have C_Curvecall := c_ccall (P := l.prog) (w := w) (base := base) D_Curvecall GCurve C_checkincome C_nodenear
    have C_scaledcurve := c_scaled (P := l.prog) (w := w) (base := base) D_scaledcurve N GCurve C_Curve C_product
    have C_inascendingorder := c_asc (P := l.prog) (w := w) (base := base) D_inascendingorder N C_isless
    have C_allincomes := c_allx (P := l.prog) (w := w) (base := base) D_allincomes GCurve C_inascendingorder
    have C_nodesum := c_nsum (P := l.prog) (w := w) (base := base) D_nodesum GCurve C_nodenear C_plus
    have C_sumof := c_sum (P := l.prog) (w := w) (base := base) D_sumof C_Curve C_nodesum C_allincomes
    have C_Curveadd := c_cadd (P := l.prog) (w := w) (base := base) D_Curveadd C_sumof
    have C_Curvesub := c_csub (P := l.prog) (w := w) (base := base) D_Curvesub C_sumof C_scaledcurve
    have C_Curvetimes := c_times (P := l.prog) (w := w) (base := base) D_Curvetimes C_scaledcurve
    have C_largerpiece := c_piece (P := l.prog) (w := w) (base := base) D_largerpiece C_largerof C_isless
    have C_crossing := c_cross (P := l.prog) (w := w) (base := base) D_crossing Cn C_minus C_quotient C_isless C_plus
    have C_largercurve := c_larger (P := l.prog) (w := w) (base := base) D_largercurve N GCurve C_Curve C_allincomes C_nodenear C_largerof C_largerpiece C_crossing C_isless C_reachedby
    have C_Curvelarger := c_clarger (P := l.prog) (w := w) (base := base) D_Curvelarger C_largercurve
    have C_ispart := c_ispart (P := l.prog) (w := w) (base := base) D_ispart N Cn C_isnumber C_isless
    have C_Spread := c_sinit (P := l.prog) (w := w) (base := base) D_Spread N Cn C_ispart
    have C_Spreadhouseholds := c_hous (P := l.prog) (w := w) (base := base) D_Spreadhouseholds N GSpread
    have C_area := c_area (P := l.prog) (w := w) (base := base) D_area N Cn GCurve C_isless C_nodenear C_minus C_plus C_product
    have C_partmean := c_pm (P := l.prog) (w := w) (base := base) D_partmean hfi C_Curvecall C_area C_quotient C_product C_minus
    have C_mean := c_mean (P := l.prog) (w := w) (base := base) D_mean Cn GSpread C_partmean C_plus C_quotient C_product C_Spreadhouseholds
    have C_lengthwithin := c_len (P := l.prog) (w := w) (base := base) D_lengthwithin Cn GRanges C_largerof C_smallerof C_isless C_plus C_minus
    have C_share := c_share (P := l.prog) (w := w) (base := base) D_share Cn GSpread C_lengthwithin C_plus C_quotient C_product C_Spreadhouseholds C_minus C_Rangescontains
    have C_Lfeed := c_feed (P := l.prog) (w := w) (base := base) D_Lfeed N
    have C_Ltake := c_take (P := l.prog) (w := w) (base := base) D_Ltake N
    have C_Lpick := c_pick (P := l.prog) (w := w) (base := base) D_Lpick N C_Ltake
    have C_Ldivisor := c_ldiv (P := l.prog) (w := w) (base := base) D_Ldivisor N
    have C_Lnumber := c_lnum (P := l.prog) (w := w) (base := base) D_Lnumber C_Ldivisor
    have C_Lplus := c_lplus (P := l.prog) (w := w) (base := base) D_Lplus C_Lnumber
    have C_Lminus := c_lminus (P := l.prog) (w := w) (base := base) D_Lminus C_Lnumber
    have C_Lby := c_lby (P := l.prog) (w := w) (base := base) D_Lby C_Lnumber
    have C_Lless := c_lless (P := l.prog) (w := w) (base := base) D_Lless
    have C_Lsomenumber := c_some (P := l.prog) (w := w) (base := base) D_Lsomenumber C_Ltake C_Lpick C_Lnumber
    have C_Lline := c_line (P := l.prog) (w := w) (base := base) D_Lline C_Lplus C_Lby C_Lminus
    have C_Lneeded := c_need (P := l.prog) (w := w) (base := base) D_Lneeded C_Lline
    have C_Lfew := c_few (P := l.prog) (w := w) (base := base) D_Lfew N C_Ltake C_Lpick C_Lsomenumber C_Lplus C_Lline C_Lneeded
    have C_Lparts := c_parts (P := l.prog) (w := w) (base := base) D_Lparts N C_Ltake C_Lpick C_Lnumber C_Lplus
    have C_Lcutright := c_cutr (P := l.prog) (w := w) (base := base) D_Lcutright N hfi C_Ltake C_Lpick C_Lnumber C_Lplus C_Lby C_Lminus C_mean C_Spread C_Curvecall
    have C_Lsharesright := c_shr (P := l.prog) (w := w) (base := base) D_Lsharesright N GRanges C_Ltake C_Lpick C_Lnumber C_Lplus C_Ranges C_share C_Rangesoutside C_Rangesor C_Rangesand
    exact c_law (P := l.prog) (w := w) (base := base) HA D_law N GCurve C_Lfeed C_Lfew C_Lparts C_Curve C_Spread C_mean C_Lsomenumber C_Lplus C_Lminus C_Lby C_Lless C_Curveadd C_Curvesub C_Curvetimes C_Curvelarger C_Lcutright C_Lsharesright C_share C_Ranges
theorem walk {l : PySem.W.OpenLaw} {q : Program} {loose : List Str} {XP : (Str → Option Value) → Heap → Prop} {YP : World → Heap → Prop} {d : DefRec} {K : Params → PySem.W.Frag} (hn : l.most = some 63) (hdf : d.params.defaults = [])
    (hY : ∀ (w : World) (h : Heap), YP w h → (K w.params).In h)
    (F : ∀ (w : World) (mg : Str → Option Value) (fa : Addr) (h : Heap), (K w.params).In h → h.Ns mainGlobals mg → mg d.name = some (.ref fa) →
      ∃ fd : FuncData, (∀ (s : Shared) (u : Value), BindsTo s fd ⟨[u], []⟩ [("_law_script", u)]) ∧ ∀ base : Heap, (K w.params).In base → base.Ns mainGlobals mg → FnOk l.prog w (K w.params) mg base CX0 11 fa fd ["_law_script"] (spP (K w.params) R_law)) :
    PySem.W.WalkO q loose XP YP l.row.toRowW d [] (fun f vs => PySem.call f vs) :=
  L2.walk_of (n := 63) (k := 11) (x := "_law_script") (CX := fun _ => CX0) (sp := fun w => spP (K w.params) R_law) hn (by decide) hdf ⟨rfl, by decide, by decide⟩ hY F (fun w H a ns hl _ hS => ⟨[.dat (.list (ns.map .int))], db true, ⟨ns, rfl, hl, rfl⟩, .cons (.lst hS dps_of_ints) .nil, fun v H' _ hr => bool_of (B := H) (l := []) (.inr hr)⟩) fun _ _ _ _ _ z => z
end G
end END1
section HeadS
open PySem PySem.W PyProof.Rows
set_option Elab.async false
set_option maxRecDepth 100000
set_option maxHeartbeats 0
open_top head for PySem.Challenge.rw_allincomes_k72_whole_means
end HeadS
section END2
set_option linter.all false
set_option exponentiation.threshold 500000
set_option Elab.async false
open PySem PySem.W PyProof.Rows in
set_option maxRecDepth 100000 in
set_option maxHeartbeats 0 in
theorem PySem.Challenge.cw_allincomes_k72_whole_means_holds : PySem.Challenge.rw_allincomes_k72_whole_means.Holds :=
  head (by
  k_fill
  refine G.walk (l := PySem.Challenge.rw_allincomes_k72_whole_means) rfl rfl (fun w h Y => PySem.W.kIn_of Y) ?F
  case F =>
    intro w mg fa h KX GG hmg
    refine' G.all_mk G.lawAll KX GG hmg ?n_abs ?n_len ?n_isinstance ?n_int ?n_bool ?n_tuple ?n_list ?n_all ?n_any ?n_sum ?n_zip ?n_enumerate ?n_range ?n_max ?n_min ?a_zero ?l_zero ?a_one ?l_one ?a_bot ?l_bot ?m_bot ?a_top ?l_top ?m_top ?a_parts ?a_count ?k_Ranges ?na_Ranges_pairs ?na_Ranges_ranges ?k_Curve ?na_Curve_nodes ?k_Spread ?na_Spread_rows ?sf_Ranges ?sf_Curve ?a_call ?i_call ?d_commondivisor ?d_exact ?d_isinteger ?d_isnumber ?d_plus ?d_negative ?d_minus ?d_product ?d_quotient ?d_isless ?d_largerof ?d_smallerof ?d_below ?d_above ?d_comesbefore ?d_latercut ?d_earliercut ?d_isend ?d_cutsof ?d_isrange ?d_rangeof ?d_inorder ?d_joinedpairs ?d_liesbetween ?d_Ranges ?d_betweencuts ?d_Rangescontains ?d_Rangesor ?d_Rangesand ?d_Rangesoutside ?d_checkincome ?d_reachedby ?d_arenodes ?d_nodenear ?d_Curve ?d_Curvecall ?d_scaledcurve ?d_inascendingorder ?d_allincomes ?d_nodesum ?d_sumof ?d_Curveadd ?d_Curvesub ?d_Curvetimes ?d_largerpiece ?d_crossing ?d_largercurve ?d_Curvelarger ?d_ispart ?d_Spread ?d_Spreadhouseholds ?d_area ?d_partmean ?d_mean ?d_lengthwithin ?d_share ?d_Lfeed ?d_Ltake ?d_Lpick ?d_Ldivisor ?d_Lnumber ?d_Lplus ?d_Lminus ?d_Lby ?d_Lless ?d_Lsomenumber ?d_Lline ?d_Lneeded ?d_Lfew ?d_Lparts ?d_Lcutright ?d_Lsharesright ?d_law
    (case n_abs => k_is)
    (case n_len => k_is)
    (case n_isinstance => k_is)
    (case n_int => k_is)
    (case n_bool => k_is)
    (case n_tuple => k_is)
    (case n_list => k_is)
    (case n_all => k_is)
    (case n_any => k_is)
    (case n_sum => k_is)
    (case n_zip => k_is)
    (case n_enumerate => k_is)
    (case n_range => k_is)
    (case n_max => k_is)
    (case n_min => k_is)
    (case a_zero => k_is)
    (case l_zero => k_is)
    (case a_one => k_is)
    (case l_one => k_is)
    (case a_bot => k_is)
    (case l_bot => k_is)
    (case m_bot => k_is)
    (case a_top => k_is)
    (case l_top => k_is)
    (case m_top => k_is)
    (case a_parts => k_is)
    (case a_count => k_is)
    (case k_Ranges => refine' ⟨?a, ?pg, ?hd, ?po, ?sa, ?mk, ?kc⟩; (case a => k_is); (case pg => k_is); (case hd => k_is); (case po => k_is); (case sa => k_is); (case mk => k_is); (case kc => k_is))
    (case na_Ranges_pairs => k_is)
    (case na_Ranges_ranges => k_is)
    (case k_Curve => refine' ⟨?a, ?pg, ?hd, ?po, ?sa, ?mk, ?kc⟩; (case a => k_is); (case pg => k_is); (case hd => k_is); (case po => k_is); (case sa => k_is); (case mk => k_is); (case kc => k_is))
    (case na_Curve_nodes => k_is)
    (case k_Spread => refine' ⟨?a, ?pg, ?hd, ?po, ?sa, ?mk, ?kc⟩; (case a => k_is); (case pg => k_is); (case hd => k_is); (case po => k_is); (case sa => k_is); (case mk => k_is); (case kc => k_is))
    (case na_Spread_rows => k_is)
    (case sf_Ranges => k_is)
    (case sf_Curve => k_is)
    (case a_call => k_is)
    (case i_call => k_is)
    (case d_commondivisor => refine' G.defk ?a ?l ?c ?k; (case a => k_is); (case l => k_is); (case c => k_is); (case k => k_is))
    (case d_exact => refine' G.defk ?a ?l ?c ?k; (case a => k_is); (case l => k_is); (case c => k_is); (case k => k_is))
    (case d_isinteger => refine' G.defk ?a ?l ?c ?k; (case a => k_is); (case l => k_is); (case c => k_is); (case k => k_is))
    (case d_isnumber => refine' G.defk ?a ?l ?c ?k; (case a => k_is); (case l => k_is); (case c => k_is); (case k => k_is))
    (case d_plus => refine' G.defk ?a ?l ?c ?k; (case a => k_is); (case l => k_is); (case c => k_is); (case k => k_is))
    (case d_negative => refine' G.defk ?a ?l ?c ?k; (case a => k_is); (case l => k_is); (case c => k_is); (case k => k_is))
    (case d_minus => refine' G.defk ?a ?l ?c ?k; (case a => k_is); (case l => k_is); (case c => k_is); (case k => k_is))
    (case d_product => refine' G.defk ?a ?l ?c ?k; (case a => k_is); (case l => k_is); (case c => k_is); (case k => k_is))
    (case d_quotient => refine' G.defk ?a ?l ?c ?k; (case a => k_is); (case l => k_is); (case c => k_is); (case k => k_is))
    (case d_isless => refine' G.defk ?a ?l ?c ?k; (case a => k_is); (case l => k_is); (case c => k_is); (case k => k_is))
    (case d_largerof => refine' G.defk ?a ?l ?c ?k; (case a => k_is); (case l => k_is); (case c => k_is); (case k => k_is))
    (case d_smallerof => refine' G.defk ?a ?l ?c ?k; (case a => k_is); (case l => k_is); (case c => k_is); (case k => k_is))
    (case d_below => refine' G.defk ?a ?l ?c ?k; (case a => k_is); (case l => k_is); (case c => k_is); (case k => k_is))
    (case d_above => refine' G.defk ?a ?l ?c ?k; (case a => k_is); (case l => k_is); (case c => k_is); (case k => k_is))
    (case d_comesbefore => refine' G.defk ?a ?l ?c ?k; (case a => k_is); (case l => k_is); (case c => k_is); (case k => k_is))
    (case d_latercut => refine' G.defk ?a ?l ?c ?k; (case a => k_is); (case l => k_is); (case c => k_is); (case k => k_is))
    (case d_earliercut => refine' G.defk ?a ?l ?c ?k; (case a => k_is); (case l => k_is); (case c => k_is); (case k => k_is))
    (case d_isend => refine' G.defk ?a ?l ?c ?k; (case a => k_is); (case l => k_is); (case c => k_is); (case k => k_is))
    (case d_cutsof => refine' G.defk ?a ?l ?c ?k; (case a => k_is); (case l => k_is); (case c => k_is); (case k => k_is))
    (case d_isrange => refine' G.defk ?a ?l ?c ?k; (case a => k_is); (case l => k_is); (case c => k_is); (case k => k_is))
    (case d_rangeof => refine' G.defk ?a ?l ?c ?k; (case a => k_is); (case l => k_is); (case c => k_is); (case k => k_is))
    (case d_inorder => refine' G.defk ?a ?l ?c ?k; (case a => k_is); (case l => k_is); (case c => k_is); (case k => k_is))
    (case d_joinedpairs => refine' G.defk ?a ?l ?c ?k; (case a => k_is); (case l => k_is); (case c => k_is); (case k => k_is))
    (case d_liesbetween => refine' G.defk ?a ?l ?c ?k; (case a => k_is); (case l => k_is); (case c => k_is); (case k => k_is))
    (case d_Ranges => refine' G.methk ?a ?i ?l ?c ?k; (case a => k_is); (case i => k_is); (case l => k_is); (case c => k_is); (case k => k_is))
    (case d_betweencuts => refine' G.defk ?a ?l ?c ?k; (case a => k_is); (case l => k_is); (case c => k_is); (case k => k_is))
    (case d_Rangescontains => refine' G.methk ?a ?i ?l ?c ?k; (case a => k_is); (case i => k_is); (case l => k_is); (case c => k_is); (case k => k_is))
    (case d_Rangesor => refine' G.methk ?a ?i ?l ?c ?k; (case a => k_is); (case i => k_is); (case l => k_is); (case c => k_is); (case k => k_is))
    (case d_Rangesand => refine' G.methk ?a ?i ?l ?c ?k; (case a => k_is); (case i => k_is); (case l => k_is); (case c => k_is); (case k => k_is))
    (case d_Rangesoutside => refine' G.methk ?a ?i ?l ?c ?k; (case a => k_is); (case i => k_is); (case l => k_is); (case c => k_is); (case k => k_is))
    (case d_checkincome => refine' G.defk ?a ?l ?c ?k; (case a => k_is); (case l => k_is); (case c => k_is); (case k => k_is))
    (case d_reachedby => refine' G.defk ?a ?l ?c ?k; (case a => k_is); (case l => k_is); (case c => k_is); (case k => k_is))
    (case d_arenodes => refine' G.defk ?a ?l ?c ?k; (case a => k_is); (case l => k_is); (case c => k_is); (case k => k_is))
    (case d_nodenear => refine' G.defk ?a ?l ?c ?k; (case a => k_is); (case l => k_is); (case c => k_is); (case k => k_is))
    (case d_Curve => refine' G.methk ?a ?i ?l ?c ?k; (case a => k_is); (case i => k_is); (case l => k_is); (case c => k_is); (case k => k_is))
    (case d_Curvecall => refine' G.methk ?a ?i ?l ?c ?k; (case a => k_is); (case i => k_is); (case l => k_is); (case c => k_is); (case k => k_is))
    (case d_scaledcurve => refine' G.defk ?a ?l ?c ?k; (case a => k_is); (case l => k_is); (case c => k_is); (case k => k_is))
    (case d_inascendingorder => refine' G.defk ?a ?l ?c ?k; (case a => k_is); (case l => k_is); (case c => k_is); (case k => k_is))
    (case d_allincomes => refine' G.defk ?a ?l ?c ?k; (case a => k_is); (case l => k_is); (case c => k_is); (case k => k_is))
    (case d_nodesum => refine' G.defk ?a ?l ?c ?k; (case a => k_is); (case l => k_is); (case c => k_is); (case k => k_is))
    (case d_sumof => refine' G.defk ?a ?l ?c ?k; (case a => k_is); (case l => k_is); (case c => k_is); (case k => k_is))
    (case d_Curveadd => refine' G.methk ?a ?i ?l ?c ?k; (case a => k_is); (case i => k_is); (case l => k_is); (case c => k_is); (case k => k_is))
    (case d_Curvesub => refine' G.methk ?a ?i ?l ?c ?k; (case a => k_is); (case i => k_is); (case l => k_is); (case c => k_is); (case k => k_is))
    (case d_Curvetimes => refine' G.methk ?a ?i ?l ?c ?k; (case a => k_is); (case i => k_is); (case l => k_is); (case c => k_is); (case k => k_is))
    (case d_largerpiece => refine' G.defk ?a ?l ?c ?k; (case a => k_is); (case l => k_is); (case c => k_is); (case k => k_is))
    (case d_crossing => refine' G.defk ?a ?l ?c ?k; (case a => k_is); (case l => k_is); (case c => k_is); (case k => k_is))
    (case d_largercurve => refine' G.defk ?a ?l ?c ?k; (case a => k_is); (case l => k_is); (case c => k_is); (case k => k_is))
    (case d_Curvelarger => refine' G.methk ?a ?i ?l ?c ?k; (case a => k_is); (case i => k_is); (case l => k_is); (case c => k_is); (case k => k_is))
    (case d_ispart => refine' G.defk ?a ?l ?c ?k; (case a => k_is); (case l => k_is); (case c => k_is); (case k => k_is))
    (case d_Spread => refine' G.methk ?a ?i ?l ?c ?k; (case a => k_is); (case i => k_is); (case l => k_is); (case c => k_is); (case k => k_is))
    (case d_Spreadhouseholds => refine' G.methk ?a ?i ?l ?c ?k; (case a => k_is); (case i => k_is); (case l => k_is); (case c => k_is); (case k => k_is))
    (case d_area => refine' G.defk ?a ?l ?c ?k; (case a => k_is); (case l => k_is); (case c => k_is); (case k => k_is))
    (case d_partmean => refine' G.defk ?a ?l ?c ?k; (case a => k_is); (case l => k_is); (case c => k_is); (case k => k_is))
    (case d_mean => refine' G.defk ?a ?l ?c ?k; (case a => k_is); (case l => k_is); (case c => k_is); (case k => k_is))
    (case d_lengthwithin => refine' G.defk ?a ?l ?c ?k; (case a => k_is); (case l => k_is); (case c => k_is); (case k => k_is))
    (case d_share => refine' G.defk ?a ?l ?c ?k; (case a => k_is); (case l => k_is); (case c => k_is); (case k => k_is))
    (case d_Lfeed => refine' G.defk ?a ?l ?c ?k; (case a => k_is); (case l => k_is); (case c => k_is); (case k => k_is))
    (case d_Ltake => refine' G.defk ?a ?l ?c ?k; (case a => k_is); (case l => k_is); (case c => k_is); (case k => k_is))
    (case d_Lpick => refine' G.defk ?a ?l ?c ?k; (case a => k_is); (case l => k_is); (case c => k_is); (case k => k_is))
    (case d_Ldivisor => refine' G.defk ?a ?l ?c ?k; (case a => k_is); (case l => k_is); (case c => k_is); (case k => k_is))
    (case d_Lnumber => refine' G.defk ?a ?l ?c ?k; (case a => k_is); (case l => k_is); (case c => k_is); (case k => k_is))
    (case d_Lplus => refine' G.defk ?a ?l ?c ?k; (case a => k_is); (case l => k_is); (case c => k_is); (case k => k_is))
    (case d_Lminus => refine' G.defk ?a ?l ?c ?k; (case a => k_is); (case l => k_is); (case c => k_is); (case k => k_is))
    (case d_Lby => refine' G.defk ?a ?l ?c ?k; (case a => k_is); (case l => k_is); (case c => k_is); (case k => k_is))
    (case d_Lless => refine' G.defk ?a ?l ?c ?k; (case a => k_is); (case l => k_is); (case c => k_is); (case k => k_is))
    (case d_Lsomenumber => refine' G.defk ?a ?l ?c ?k; (case a => k_is); (case l => k_is); (case c => k_is); (case k => k_is))
    (case d_Lline => refine' G.defk ?a ?l ?c ?k; (case a => k_is); (case l => k_is); (case c => k_is); (case k => k_is))
    (case d_Lneeded => refine' G.defk ?a ?l ?c ?k; (case a => k_is); (case l => k_is); (case c => k_is); (case k => k_is))
    (case d_Lfew => refine' G.defk ?a ?l ?c ?k; (case a => k_is); (case l => k_is); (case c => k_is); (case k => k_is))
    (case d_Lparts => refine' G.defk ?a ?l ?c ?k; (case a => k_is); (case l => k_is); (case c => k_is); (case k => k_is))
    (case d_Lcutright => refine' G.defk ?a ?l ?c ?k; (case a => k_is); (case l => k_is); (case c => k_is); (case k => k_is))
    (case d_Lsharesright => refine' G.defk ?a ?l ?c ?k; (case a => k_is); (case l => k_is); (case c => k_is); (case k => k_is))
    (case d_law => refine' G.defk ?a ?l ?c ?k; (case a => k_is); (case l => k_is); (case c => k_is); (case k => k_is)))
end END2
