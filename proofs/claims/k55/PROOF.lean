import PyProof.Rows.All
import Wide.All
import OpenK.AllK
import Wide.FinOn
import HandS.ForMost
import HandS.Deep
import HandS.TupAny
import HandS.TupMul
import HandS.Style
import HandS.Zip
import HandS.More
import PyProof.SumWalkG
import PyProof.SliceList
import PyProof.SliceSyntax
import KE.GoesEnum
import KE.GoesMore
import HandS.Exc
import HandS.ExcInit
import HandS.ExcOwn
import HandS.FStr
import HandS.WordsExc
import KE.KExcInit
import PyProof.ExcBaseAll.OverflowError
import KE.KStateDown
import HandS.Defaults
import HandS.Head0
import HandS.Head1
import HandS.Head2
import HandS.HeadEnd
import HandS.HeadHook1
import HandS.HeadHook2
import HandS.HeadHook4
import PySem.Challenge.RW_movedfolders_k55_unfolded_at_the_bound
set_option Elab.async false
set_option linter.all false
section
set_option maxRecDepth 100000
set_option maxHeartbeats 4000000
/-! Dn1: data, the store, what stands for what; denotations of expressions -/
namespace Dn
open PySem PySem.Spec PyProof.Rows L2

structure Kx where
  K : PySem.W.Frag
  w : World
abbrev bx (X : Cx) : Kx := ⟨X.K, X.w⟩

abbrev D := PyData
/-- a mutable object of the store, by its number (no data of the program looks so) -/
def rf (n : Nat) : D := .dict [(.dict [], .int n)]
/-- a list that others hold too (the script): read alone -/
def fz (ds : List D) : D := .dict [(.dict [], .list ds)]
theorem rf_inj {n m : Nat} (h : rf n = rf m) : n = m := by
  unfold rf at h
  injection h with h
  injection h with h _
  injection h with _ h
  injection h with h
  exact Int.ofNat.inj h

/-- the store's objects -/
inductive O where
  | lst (xs : List D)
  | dct (kvs : List (D × D))
  | ins (C : Addr) (fs : List (Str × D))
abbrev Sto := List O

/-- where the store's objects stand; the places that a comprehension fills (nothing else stands for data there) -/
structure Ix where
  a : List Addr
  z : List Addr
def Ix.out (ι : Ix) (b : Addr) : Prop := b ∉ ι.a ∧ b ∉ ι.z
def Ix.push (ι : Ix) (p : Addr) : Ix := ⟨ι.a ++ [p], ι.z⟩

/-- a list that nobody writes: outside the store, or of the written part -/
def LAt (B : Kx) (ι : Ix) (H : Hp) (a : Addr) (xs : List V) : Prop := (Rd H a (.lst xs) ∧ ι.out a) ∨ SqL B.K (fun _ => none) a xs
def TAt (B : Kx) (ι : Ix) (H : Hp) (a : Addr) (xs : List V) : Prop := (Rd H a (.tup xs) ∧ ι.out a) ∨ SqT B.K (fun _ => none) a xs
theorem no_rd {a : Addr} {u : HO} : ¬ Rd (fun _ => none) a u := by
  rintro (h | ⟨o, h⟩) <;> cases h
theorem LAt.sq {B : Kx} {ι : Ix} {H : Hp} {a : Addr} {xs : List V} (h : LAt B ι H a xs) : SqL B.K H a xs := by
  rcases h with ⟨h, _⟩ | h
  · exact .inl h
  · rcases h with h | h
    · exact (no_rd h).elim
    · exact .inr h
theorem TAt.sq {B : Kx} {ι : Ix} {H : Hp} {a : Addr} {xs : List V} (h : TAt B ι H a xs) : SqT B.K H a xs := by
  rcases h with ⟨h, _⟩ | h
  · exact .inl h
  · rcases h with h | h
    · exact (no_rd h).elim
    · exact .inr h

mutual
/-- the value v stands for the data d -/
inductive Rep (B : Kx) (ι : Ix) (H : Hp) : V → D → Prop
  | non : Rep B ι H .non .none
  | bl (b : Bool) : Rep B ι H (.bl b) (.bool b)
  | int (i : Int) : Rep B ι H (.int i) (.int i)
  | str (x : Str) : Rep B ι H (.str x) (.str x)
  | lst {a : Addr} {xs : List V} {ds : List D} : H a = some (.lst xs) → ι.out a → Reps B ι H xs ds → Rep B ι H (.ref a) (.list ds)
  | fz {a : Addr} {xs : List V} {ds : List D} : LAt B ι H a xs → Reps B ι H xs ds → Rep B ι H (.ref a) (fz ds)
  | tup {a : Addr} {xs : List V} {ds : List D} : TAt B ι H a xs → Reps B ι H xs ds → Rep B ι H (.ref a) (.tuple ds)
  | rf {n : Nat} {a : Addr} : ι.a[n]? = some a → Rep B ι H (.ref a) (rf n)
inductive Reps (B : Kx) (ι : Ix) (H : Hp) : List V → List D → Prop
  | nil : Reps B ι H [] []
  | cons {v : V} {vs : List V} {d : D} {ds : List D} : Rep B ι H v d → Reps B ι H vs ds → Reps B ι H (v :: vs) (d :: ds)
end

/-- from the state (ι, H) to the state (ι', H'): what is outside the store stands as it was -/
structure Fra (ι ι' : Ix) (H H' : Hp) : Prop where
  pre : ∃ t, ι'.a = ι.a ++ t
  zz : ι'.z = ι.z
  keep : ∀ b o, H b = some o → b ∉ ι.a → H' b = some o
  new : ∀ b, b ∈ ι'.a → b ∉ ι.a → H b = none
section
variable {B : Kx} {ι ι1 ι2 ι' : Ix} {H H1 H2 H' : Hp}
theorem Fra.refl (ι : Ix) (H : Hp) : Fra ι ι H H := ⟨⟨[], by simp⟩, rfl, fun _ _ h _ => h, fun _ h n => absurd h n⟩
theorem Fra.outA (F : Fra ι ι' H H') {a : Addr} {o : HO} (h : H a = some o) (n : a ∉ ι.a) : a ∉ ι'.a := fun z => by
  have e := F.new a z n
  rw [h] at e
  cases e
theorem Fra.out (F : Fra ι ι' H H') {a : Addr} {o : HO} (h : H a = some o) (n : ι.out a) : ι'.out a := ⟨F.outA h n.1, by rw [F.zz]; exact n.2⟩
theorem Fra.trans (F : Fra ι ι1 H H1) (G : Fra ι1 ι2 H1 H2) : Fra ι ι2 H H2 := by
  refine ⟨?_, G.zz.trans F.zz, fun a o h n => G.keep a o (F.keep a o h n) (F.outA h n), fun a h n => ?_⟩
  · obtain ⟨t, e⟩ := F.pre
    obtain ⟨u, e2⟩ := G.pre
    exact ⟨t ++ u, by rw [e2, e, List.append_assoc]⟩
  · by_cases h1 : a ∈ ι1.a
    · exact F.new a h1 n
    · cases e : H a with
      | none => rfl
      | some o =>
        have := G.new a h h1
        rw [F.keep a o e n] at this
        cases this
theorem Fra.rd (F : Fra ι ι' H H') {a : Addr} {u : HO} (h : Rd H a u) (n : ι.out a) : Rd H' a u ∧ ι'.out a := by
  rcases h with h | ⟨o, h⟩
  · exact ⟨.inl (F.keep a _ h n.1), F.out h n⟩
  · exact ⟨.inr ⟨o, F.keep a _ h n.1⟩, F.out h n⟩
theorem Fra.at (F : Fra ι ι' H H') {n : Nat} {a : Addr} (h : ι.a[n]? = some a) : ι'.a[n]? = some a := by
  obtain ⟨t, e⟩ := F.pre
  rw [e, List.getElem?_append_left (List.getElem?_eq_some_iff.mp h).1]
  exact h
theorem LAt.mono (F : Fra ι ι' H H') {a : Addr} {xs : List V} (h : LAt B ι H a xs) : LAt B ι' H' a xs := by
  rcases h with ⟨h, n⟩ | h
  · exact .inl (F.rd h n)
  · exact .inr h
theorem TAt.mono (F : Fra ι ι' H H') {a : Addr} {xs : List V} (h : TAt B ι H a xs) : TAt B ι' H' a xs := by
  rcases h with ⟨h, n⟩ | h
  · exact .inl (F.rd h n)
  · exact .inr h
mutual
theorem Rep.mono (F : Fra ι ι' H H') {v : V} {d : D} : Rep B ι H v d → Rep B ι' H' v d
  | .non => .non
  | .bl b => .bl b
  | .int i => .int i
  | .str x => .str x
  | .lst h n r => .lst (F.keep _ _ h n.1) (F.out h n) (Reps.mono F r)
  | .fz h r => .fz (h.mono F) (Reps.mono F r)
  | .tup h r => .tup (h.mono F) (Reps.mono F r)
  | .rf h => .rf (F.at h)
theorem Reps.mono (F : Fra ι ι' H H') {vs : List V} {ds : List D} : Reps B ι H vs ds → Reps B ι' H' vs ds
  | .nil => .nil
  | .cons h r => .cons (Rep.mono F h) (Reps.mono F r)
end
theorem Reps.length {vs : List V} {ds : List D} : Reps B ι H vs ds → vs.length = ds.length
  | .nil => rfl
  | .cons _ r => congrArg Nat.succ r.length
theorem Reps.get : ∀ {vs : List V} {ds : List D} {i : Nat} {d : D}, Reps B ι H vs ds → ds[i]? = some d → ∃ v, vs[i]? = some v ∧ Rep B ι H v d
  | _, _, _, _, .nil, e => by simp at e
  | _, _, 0, _, .cons h _, e => by simp at e; subst e; exact ⟨_, rfl, h⟩
  | _, _, i + 1, d, .cons _ r, e => by
    obtain ⟨v, h1, h2⟩ := Reps.get (i := i) (d := d) r (by simpa using e)
    exact ⟨v, by simpa using h1, h2⟩
theorem Reps.getV : ∀ {vs : List V} {ds : List D} {i : Nat} {v : V}, Reps B ι H vs ds → vs[i]? = some v → ∃ d, ds[i]? = some d ∧ Rep B ι H v d
  | _, _, _, _, .nil, e => by simp at e
  | _, _, 0, _, .cons h _, e => by simp at e; subst e; exact ⟨_, rfl, h⟩
  | _, _, i + 1, d, .cons _ r, e => by
    obtain ⟨v, h1, h2⟩ := Reps.getV (i := i) (v := d) r (by simpa using e)
    exact ⟨v, by simpa using h1, h2⟩
theorem Reps.append : ∀ {vs us : List V} {ds es : List D}, Reps B ι H vs ds → Reps B ι H us es → Reps B ι H (vs ++ us) (ds ++ es)
  | _, _, _, _, .nil, s => s
  | _, _, _, _, .cons h r, s => .cons h (Reps.append r s)
theorem Reps.take : ∀ {vs : List V} {ds : List D} (n : Nat), Reps B ι H vs ds → Reps B ι H (vs.take n) (ds.take n)
  | _, _, 0, _ => .nil
  | _, _, _ + 1, .nil => .nil
  | _, _, n + 1, .cons h r => .cons h (Reps.take n r)
theorem Reps.drop : ∀ {vs : List V} {ds : List D} (n : Nat), Reps B ι H vs ds → Reps B ι H (vs.drop n) (ds.drop n)
  | _, _, 0, r => r
  | _, _, _ + 1, .nil => .nil
  | _, _, n + 1, .cons _ r => Reps.drop n r
theorem Reps.one {v : V} {d : D} (h : Rep B ι H v d) : Reps B ι H [v] [d] := .cons h .nil
theorem Reps.set {v : V} {d : D} (h : Rep B ι H v d) : ∀ {vs : List V} {ds : List D} (i : Nat), Reps B ι H vs ds → Reps B ι H (vs.set i v) (ds.set i d)
  | _, _, _, .nil => .nil
  | _, _, 0, .cons _ r => .cons h r
  | _, _, i + 1, .cons q r => .cons q (Reps.set h i r)
theorem Reps.erase : ∀ {vs : List V} {ds : List D} (i : Nat), Reps B ι H vs ds → Reps B ι H (vs.eraseIdx i) (ds.eraseIdx i)
  | _, _, _, .nil => .nil
  | _, _, 0, .cons _ r => r
  | _, _, i + 1, .cons q r => .cons q (Reps.erase i r)
theorem Reps.rev : ∀ {vs : List V} {ds : List D}, Reps B ι H vs ds → Reps B ι H vs.reverse ds.reverse
  | _, _, .nil => .nil
  | _, _, .cons h r => by
    rw [List.reverse_cons, List.reverse_cons]
    exact (Reps.rev r).append (.one h)
end

/-- fields of an instance -/
inductive Flds (B : Kx) (ι : Ix) (H : Hp) : List (Str × V) → List (Str × D) → Prop
  | nil : Flds B ι H [] []
  | cons {x : Str} {v : V} {d : D} {vs : List (Str × V)} {ds : List (Str × D)} : Rep B ι H v d → Flds B ι H vs ds → Flds B ι H ((x, v) :: vs) ((x, d) :: ds)
theorem Flds.mono {B : Kx} {ι ι' : Ix} {H H' : Hp} (F : Fra ι ι' H H') : ∀ {vs : List (Str × V)} {ds : List (Str × D)}, Flds B ι H vs ds → Flds B ι' H' vs ds
  | _, _, .nil => .nil
  | _, _, .cons h r => .cons (h.mono F) (Flds.mono F r)

/-- the object at a is o -/
def OR (B : Kx) (ι : Ix) (H : Hp) (a : Addr) : O → Prop
  | .lst ds => ∃ vs, H a = some (.lst vs) ∧ Reps B ι H vs ds
  | .dct kvs => False
  | .ins C fs => ∃ dx vs, H a = some (.ins C dx vs) ∧ Flds B ι H vs fs
theorem OR.some {B : Kx} {ι : Ix} {H : Hp} {a : Addr} {o : O} (h : OR B ι H a o) : ∃ u, H a = some u := by
  cases o with
  | lst ds => obtain ⟨vs, h, _⟩ := h; exact ⟨_, h⟩
  | dct kvs => exact h.elim
  | ins C fs => obtain ⟨dx, vs, h, _⟩ := h; exact ⟨_, h⟩
theorem OR.mono {B : Kx} {ι ι' : Ix} {H H' : Hp} {a : Addr} {o : O} (F : Fra ι ι' H H') (e : H' a = H a) (h : OR B ι H a o) : OR B ι' H' a o := by
  cases o with
  | lst ds => obtain ⟨vs, h, r⟩ := h; exact ⟨vs, e.trans h, r.mono F⟩
  | dct kvs => exact h.elim
  | ins C fs => obtain ⟨dx, vs, h, r⟩ := h; exact ⟨dx, vs, e.trans h, r.mono F⟩

/-- the store μ stands at the addresses ι of H -/
structure SR (B : Kx) (ι : Ix) (μ : Sto) (H : Hp) : Prop where
  nd : ι.a.Nodup
  len : ι.a.length = μ.length
  obj : ∀ (n : Nat) (a : Addr) (o : O), ι.a[n]? = some a → μ[n]? = some o → OR B ι H a o
  zt : ∀ b, b ∈ ι.z → (∃ o, H b = some o) ∧ b ∉ ι.a
section
variable {B : Kx} {ι ι' : Ix} {μ : Sto} {H H' : Hp}
theorem SR.tracked (S : SR B ι μ H) {a : Addr} (h : a ∈ ι.a) : ∃ u, H a = some u := by
  obtain ⟨n, hn, e⟩ := List.getElem_of_mem h
  have hm : n < μ.length := by have := S.len; omega
  exact (S.obj n a μ[n] (by rw [List.getElem?_eq_getElem hn, e]) (List.getElem?_eq_getElem hm)).some
theorem SR.out (S : SR B ι μ H) {a : Addr} (h : H a = none) : ι.out a := by
  refine ⟨fun z => ?_, fun z => ?_⟩
  · obtain ⟨u, e⟩ := S.tracked z
    rw [h] at e
    cases e
  · obtain ⟨⟨u, e⟩, _⟩ := S.zt a z
    rw [h] at e
    cases e
/-- outside the store something new -/
theorem SR.fra (S : SR B ι μ H) {p : Addr} {o : HO} (h : H p = none) : Fra ι ι H (upd H p o) :=
  ⟨⟨[], by simp⟩, rfl, fun a u e _ => by rw [upd_ne (ne_of_none e h)]; exact e, fun _ z n => absurd z n⟩
theorem SR.fresh (S : SR B ι μ H) {p : Addr} {o : HO} (h : H p = none) : SR B ι μ (upd H p o) := by
  refine ⟨S.nd, S.len, fun n a u e1 e2 => ?_, fun b hb => ?_⟩
  · have q := S.obj n a u e1 e2
    obtain ⟨x, hx⟩ := q.some
    exact q.mono (S.fra h) (by rw [upd_ne (ne_of_none hx h)])
  · obtain ⟨⟨u, e⟩, n⟩ := S.zt b hb
    exact ⟨⟨u, by rw [upd_ne (ne_of_none e h)]; exact e⟩, n⟩
/-- all that is tracked is as it was -/
theorem fra_same (S : SR B ι μ H) (h : Same H H') : Fra ι ι H H' := ⟨⟨[], by simp⟩, rfl, fun a o e _ => h a o e, fun _ z n => absurd z n⟩
theorem SR.same (S : SR B ι μ H) (h : Same H H') : SR B ι μ H' := by
  refine ⟨S.nd, S.len, fun n a u e1 e2 => ?_, fun b hb => ?_⟩
  · have q := S.obj n a u e1 e2
    obtain ⟨x, hx⟩ := q.some
    exact q.mono (fra_same S h) (by rw [h _ _ hx, hx])
  · obtain ⟨⟨u, e⟩, n⟩ := S.zt b hb
    exact ⟨⟨u, h _ _ e⟩, n⟩
/-- a new object of the store -/
theorem fra_push (S : SR B ι μ H) {p : Addr} {o : HO} (h : H p = none) : Fra ι (ι.push p) H (upd H p o) := by
  refine ⟨⟨[p], rfl⟩, rfl, fun a u e _ => by rw [upd_ne (ne_of_none e h)]; exact e, fun a z n => ?_⟩
  rcases List.mem_append.mp z with z | z
  · exact absurd z n
  · rw [List.mem_singleton.mp z]
    exact h
theorem SR.push (S : SR B ι μ H) {p : Addr} {u : HO} {o : O} (h : H p = none) (q : OR B (ι.push p) (upd H p u) p o) : SR B (ι.push p) (μ ++ [o]) (upd H p u) := by
  refine ⟨?_, ?_, fun n a v e1 e2 => ?_, fun b hb => ?_⟩
  · show (ι.a ++ [p]).Nodup
    rw [List.nodup_append]
    refine ⟨S.nd, by simp, fun a ha b hb => ?_⟩
    rw [List.mem_singleton.mp hb]
    rintro rfl
    exact (S.out h).1 ha
  · show (ι.a ++ [p]).length = _
    rw [List.length_append, List.length_append, S.len]
    rfl
  · have e1 : (ι.a ++ [p])[n]? = some a := e1
    by_cases hn : n < ι.a.length
    · rw [List.getElem?_append_left hn] at e1
      rw [List.getElem?_append_left (by rw [← S.len]; exact hn)] at e2
      have q := S.obj n a v e1 e2
      obtain ⟨x, hx⟩ := q.some
      exact q.mono (fra_push S h) (by rw [upd_ne (ne_of_none hx h)])
    · have e3 : n = ι.a.length := by
        have h3 := (List.getElem?_eq_some_iff.mp e1).1
        rw [List.length_append] at h3
        have h4 : [p].length = 1 := rfl
        omega
      subst e3
      rw [List.getElem?_append_right (Nat.le_refl _), Nat.sub_self] at e1
      rw [S.len, List.getElem?_append_right (Nat.le_refl _), Nat.sub_self] at e2
      have e4 : p = a := Option.some.inj e1
      have e5 : o = v := Option.some.inj e2
      subst e4 e5
      exact q
  · obtain ⟨⟨x, e⟩, n⟩ := S.zt b hb
    refine ⟨⟨x, by rw [upd_ne (ne_of_none e h)]; exact e⟩, fun z => ?_⟩
    rcases List.mem_append.mp z with z | z
    · exact n z
    · rw [List.mem_singleton.mp z, h] at e
      cases e
theorem fra_write (S : SR B ι μ H) {n : Nat} {a : Addr} {o : HO} (h : ι.a[n]? = some a) : Fra ι ι H (upd H a o) := by
  refine ⟨⟨[], by simp⟩, rfl, fun b u e nb => ?_, fun _ z n => absurd z n⟩
  rw [upd_ne]
  · exact e
  · rintro rfl
    exact nb (List.mem_of_getElem? h)
/-- an object of the store is changed -/
theorem SR.write (S : SR B ι μ H) {n : Nat} {a : Addr} {u : HO} {o : O} (h : ι.a[n]? = some a) (q : OR B ι (upd H a u) a o) : SR B ι (μ.set n o) (upd H a u) := by
  refine ⟨S.nd, by rw [List.length_set]; exact S.len, fun m b v e1 e2 => ?_, fun b hb => ?_⟩
  · by_cases hm : m = n
    · subst hm
      rw [h] at e1
      have e3 : a = b := Option.some.inj e1
      subst e3
      have hl : m < μ.length := by rw [← S.len]; exact (List.getElem?_eq_some_iff.mp h).1
      rw [List.getElem?_set_self hl] at e2
      have e4 : o = v := Option.some.inj e2
      subst e4
      exact q
    · rw [List.getElem?_set_ne (Ne.symm hm)] at e2
      have hab : b ≠ a := by
        rintro rfl
        obtain ⟨l1, g1⟩ := List.getElem?_eq_some_iff.mp e1
        obtain ⟨l2, g2⟩ := List.getElem?_eq_some_iff.mp h
        exact hm ((List.getElem_inj S.nd).mp (g1.trans g2.symm))
      exact (S.obj m b v e1 e2).mono (fra_write S h) (by rw [upd_ne hab])
  · obtain ⟨⟨x, e⟩, n⟩ := S.zt b hb
    refine ⟨⟨x, ?_⟩, n⟩
    rw [upd_ne]
    · exact e
    · rintro rfl
      exact n (List.mem_of_getElem? h)
theorem SR.at (S : SR B ι μ H) {v : V} {n : Nat} {o : O} (r : Rep B ι H v (rf n)) (h : μ[n]? = some o) : ∃ a, v = .ref a ∧ ι.a[n]? = some a ∧ OR B ι H a o := by
  generalize hd : rf n = d at r
  cases r with
  | rf e =>
    have e2 := rf_inj hd
    subst e2
    exact ⟨_, rfl, e, S.obj _ _ _ e h⟩
  | fz _ _ => unfold rf fz at hd; injection hd with hd; injection hd with hd _; injection hd with _ hd; cases hd
  | _ => exact absurd hd (by unfold rf; intro z; cases z)
end

/-- names' values -/
abbrev Env := List (Option D)
structure Rel (B : Kx) (ι : Ix) (σ : Env) (μ : Sto) (τ : L2.St) (H : Hp) : Prop where
  sr : SR B ι μ H
  len : σ.length = τ.length
  slot : ∀ (i : Nat) (d : D), σ[i]? = some (some d) → ∃ v, τ[i]? = some (some v) ∧ Rep B ι H v d
section
variable {B : Kx} {ι ι' : Ix} {σ : Env} {μ μ' : Sto} {τ : L2.St} {H H' : Hp}
theorem Rel.mono (R : Rel B ι σ μ τ H) (F : Fra ι ι' H H') (S : SR B ι' μ' H') : Rel B ι' σ μ' τ H' :=
  ⟨S, R.len, fun i d e => let ⟨v, h, r⟩ := R.slot i d e; ⟨v, h, r.mono F⟩⟩
theorem Rel.set (R : Rel B ι σ μ τ H) {v : V} {d : D} (i : Nat) (r : Rep B ι H v d) : Rel B ι (σ.set i (some d)) μ (τ.set i (some v)) H := by
  refine ⟨R.sr, by rw [List.length_set, List.length_set]; exact R.len, fun j e h => ?_⟩
  by_cases hj : j = i
  · subst hj
    have hl : j < σ.length := by
      have := (List.getElem?_eq_some_iff.mp h).1
      rw [List.length_set] at this
      exact this
    rw [List.getElem?_set_self hl] at h
    have e2 : d = e := Option.some.inj (Option.some.inj h)
    subst e2
    exact ⟨v, List.getElem?_set_self (by rw [← R.len]; exact hl), r⟩
  · rw [List.getElem?_set_ne (Ne.symm hj)] at h
    obtain ⟨u, h1, h2⟩ := R.slot j e h
    exact ⟨u, by rw [List.getElem?_set_ne (Ne.symm hj)]; exact h1, h2⟩
end

/-- the place D is made private: nothing stands for data there -/
def Ix.hide (ι : Ix) (p : Addr) : Ix := ⟨ι.a, p :: ι.z⟩
def Ix.hides (ι : Ix) (zs : List Addr) : Ix := ⟨ι.a, zs ++ ι.z⟩
/-- what is needed to carry data over -/
structure Cv (ι ι' : Ix) (H H' : Hp) : Prop where
  keep : ∀ b u, H b = some u → ι.out b → H' b = some u ∧ ι'.out b
  num : ∀ (n : Nat) (b : Addr), ι.a[n]? = some b → ι'.a[n]? = some b
section
variable {B : Kx} {ι ι' : Ix} {H H' : Hp}
theorem Cv.rd (F : Cv ι ι' H H') {a : Addr} {u : HO} (h : Rd H a u) (n : ι.out a) : Rd H' a u ∧ ι'.out a := by
  rcases h with h | ⟨o, h⟩
  · exact ⟨.inl (F.keep a _ h n).1, (F.keep a _ h n).2⟩
  · exact ⟨.inr ⟨o, (F.keep a _ h n).1⟩, (F.keep a _ h n).2⟩
mutual
theorem Rep.cv (F : Cv ι ι' H H') {v : V} {d : D} : Rep B ι H v d → Rep B ι' H' v d
  | .non => .non
  | .bl b => .bl b
  | .int i => .int i
  | .str x => .str x
  | .lst h n r => .lst (F.keep _ _ h n).1 (F.keep _ _ h n).2 (Reps.cv F r)
  | .fz h r => .fz (h.elim (fun q => .inl (F.rd q.1 q.2)) .inr) (Reps.cv F r)
  | .tup h r => .tup (h.elim (fun q => .inl (F.rd q.1 q.2)) .inr) (Reps.cv F r)
  | .rf h => .rf (F.num _ _ h)
theorem Reps.cv (F : Cv ι ι' H H') {vs : List V} {ds : List D} : Reps B ι H vs ds → Reps B ι' H' vs ds
  | .nil => .nil
  | .cons h r => .cons (Rep.cv F h) (Reps.cv F r)
end
theorem Flds.cv (F : Cv ι ι' H H') : ∀ {vs : List (Str × V)} {ds : List (Str × D)}, Flds B ι H vs ds → Flds B ι' H' vs ds
  | _, _, .nil => .nil
  | _, _, .cons h r => .cons (h.cv F) (Flds.cv F r)
theorem OR.cv {a : Addr} {o : O} (F : Cv ι ι' H H') (e : H' a = H a) (h : OR B ι H a o) : OR B ι' H' a o := by
  cases o with
  | lst ds => obtain ⟨vs, h, r⟩ := h; exact ⟨vs, e.trans h, r.cv F⟩
  | dct kvs => exact h.elim
  | ins C fs => obtain ⟨dx, vs, h, r⟩ := h; exact ⟨dx, vs, e.trans h, r.cv F⟩
theorem cv_of {zs : List Addr} (F : Fra ι ι' H H') (hz : ∀ b ∈ zs, H b = none) : Cv ι (ι'.hides zs) H H' := ⟨fun b u h n => by
  have q := F.out h n
  refine ⟨F.keep b u h n.1, q.1, fun z => ?_⟩
  rcases List.mem_append.mp z with z | z
  · rw [hz b z] at h
    cases h
  · exact q.2 z, fun _ _ h => F.at h⟩
theorem cv_hide {p : Addr} {o : HO} (hp : H p = none) : Cv ι (ι.hide p) H (upd H p o) := ⟨fun b u h n => by
  have ne := ne_of_none h hp
  refine ⟨by rw [upd_ne ne]; exact h, n.1, fun z => ?_⟩
  rcases List.mem_cons.mp z with z | z
  · exact ne z
  · exact n.2 z, fun _ _ h => h⟩
theorem cv_priv {p : Addr} {o : HO} (hp : p ∈ ι.z) : Cv ι ι H (upd H p o) := ⟨fun b u h n => by
  have ne : b ≠ p := by rintro rfl; exact n.2 hp
  exact ⟨by rw [upd_ne ne]; exact h, n⟩, fun _ _ h => h⟩
theorem cv_show {p : Addr} : Cv (ι.hide p) ι H H := ⟨fun b u h n => ⟨h, n.1, fun z => n.2 (List.mem_cons_of_mem _ z)⟩, fun _ _ h => h⟩
variable {μ : Sto}
theorem SR.hide {p : Addr} {o : HO} (S : SR B ι μ H) (hp : H p = none) : SR B (ι.hide p) μ (upd H p o) := by
  refine ⟨S.nd, S.len, fun n a u e1 e2 => ?_, fun b hb => ?_⟩
  · have q := S.obj n a u e1 e2
    obtain ⟨x, hx⟩ := q.some
    exact q.cv (cv_hide hp) (by rw [upd_ne (ne_of_none hx hp)])
  · rcases List.mem_cons.mp hb with z | z
    · subst z
      exact ⟨⟨o, upd_same⟩, (S.out hp).1⟩
    · obtain ⟨⟨x, e⟩, n⟩ := S.zt b z
      exact ⟨⟨x, by rw [upd_ne (ne_of_none e hp)]; exact e⟩, n⟩
theorem SR.priv {p : Addr} {o : HO} (S : SR B ι μ H) (hp : p ∈ ι.z) : SR B ι μ (upd H p o) := by
  refine ⟨S.nd, S.len, fun n a u e1 e2 => ?_, fun b hb => ?_⟩
  · have q := S.obj n a u e1 e2
    refine q.cv (cv_priv hp) ?_
    have ne : a ≠ p := by
      rintro rfl
      exact (S.zt a hp).2 (List.mem_of_getElem? e1)
    rw [upd_ne ne]
  · obtain ⟨⟨x, e⟩, n⟩ := S.zt b hb
    refine ⟨?_, n⟩
    by_cases h : b = p
    · subst h
      exact ⟨o, upd_same⟩
    · exact ⟨x, by rw [upd_ne h]; exact e⟩
theorem SR.show {p : Addr} (S : SR B (ι.hide p) μ H) : SR B ι μ H :=
  ⟨S.nd, S.len, fun n a u e1 e2 => (S.obj n a u e1 e2).cv cv_show rfl, fun b hb => S.zt b (List.mem_cons_of_mem _ hb)⟩
end
theorem Rel.cv {B : Kx} {ι ι' : Ix} {σ : Env} {μ μ' : Sto} {τ : L2.St} {H H' : Hp} (R : Rel B ι σ μ τ H) (F : Cv ι ι' H H') (S : SR B ι' μ' H') : Rel B ι' σ μ' τ H' :=
  ⟨S, R.len, fun i d e => let ⟨v, h, r⟩ := R.slot i d e; ⟨v, h, r.cv F⟩⟩

/-! ### denotations -/
abbrev M (α : Type) := Sto → Option (α × Sto)
abbrev Den := Env → M D
abbrev DenB := Env → M Bool
abbrev DenL := Env → M (List D)
/-- an end: data d and a store μ' behind (ι, τ, H) -/
def dE (B : Kx) (f : Den) : TE := fun τ H Q => ∃ ι σ μ d μ', Rel B ι σ μ τ H ∧ f σ μ = some (d, μ') ∧
  ∀ v ι' H', Fra ι ι' H H' → Rel B ι' σ μ' τ H' → Rep B ι' H' v d → Q v H'
def dT (B : Kx) (f : DenB) : TT := fun τ H Q => ∃ ι σ μ b μ', Rel B ι σ μ τ H ∧ f σ μ = some (b, μ') ∧
  ∀ ι' H', Fra ι ι' H H' → Rel B ι' σ μ' τ H' → Q b H'
def dA (B : Kx) (f : DenL) : TA := fun τ H Q => ∃ ι σ μ ds μ', Rel B ι σ μ τ H ∧ f σ μ = some (ds, μ') ∧
  ∀ vs ι' H', Fra ι ι' H H' → Rel B ι' σ μ' τ H' → Reps B ι' H' vs ds → Q vs H'
/-- by values -/
def v1 (B : Kx) (g : D → M D) : V → Hp → VK → Prop := fun x H Q => ∃ ι μ dx d μ', SR B ι μ H ∧ Rep B ι H x dx ∧ g dx μ = some (d, μ') ∧
  ∀ v ι' H', Fra ι ι' H H' → SR B ι' μ' H' → Rep B ι' H' v d → Q v H'
def v2 (B : Kx) (g : D → D → M D) : R2 := fun x y H Q => ∃ ι μ dx dy d μ', SR B ι μ H ∧ Rep B ι H x dx ∧ Rep B ι H y dy ∧ g dx dy μ = some (d, μ') ∧
  ∀ v ι' H', Fra ι ι' H H' → SR B ι' μ' H' → Rep B ι' H' v d → Q v H'
def vA (B : Kx) (g : List D → M D) : List V → Hp → VK → Prop := fun xs H Q => ∃ ι μ ds d μ', SR B ι μ H ∧ Reps B ι H xs ds ∧ g ds μ = some (d, μ') ∧
  ∀ v ι' H', Fra ι ι' H H' → SR B ι' μ' H' → Rep B ι' H' v d → Q v H'
/-- a method: the receiver, the arguments -/
def vM (B : Kx) (g : D → List D → M D) : V → List V → Hp → VK → Prop := fun x xs H Q => ∃ ι μ dx ds d μ', SR B ι μ H ∧ Rep B ι H x dx ∧ Reps B ι H xs ds ∧ g dx ds μ = some (d, μ') ∧
  ∀ v ι' H', Fra ι ι' H H' → SR B ι' μ' H' → Rep B ι' H' v d → Q v H'

def dVar (i : Nat) : Den := fun σ μ => match σ[i]? with
  | some (some d) => some (d, μ)
  | _ => none
def dC (d : D) : Den := fun _ μ => some (d, μ)
def d1 (g : D → M D) (f : Den) : Den := fun σ μ => (f σ μ).bind fun p => g p.1 p.2
def d2 (g : D → D → M D) (f1 f2 : Den) : Den := fun σ μ => (f1 σ μ).bind fun p => (f2 σ p.2).bind fun q => g p.1 q.1 q.2
def dNil : DenL := fun _ μ => some ([], μ)
def dCons (f : Den) (r : DenL) : DenL := fun σ μ => (f σ μ).bind fun p => (r σ p.2).bind fun q => some (p.1 :: q.1, q.2)
def dF (g : List D → M D) (r : DenL) : Den := fun σ μ => (r σ μ).bind fun p => g p.1 p.2
def dM (g : D → List D → M D) (f : Den) (r : DenL) : Den := fun σ μ => (f σ μ).bind fun p => (r σ p.2).bind fun q => g p.1 q.1 q.2
def dIf (c : DenB) (f1 f2 : Den) : Den := fun σ μ => (c σ μ).bind fun p => if p.1 = true then f1 σ p.2 else f2 σ p.2
def bAnd (c1 c2 : DenB) : DenB := fun σ μ => (c1 σ μ).bind fun p => if p.1 = true then c2 σ p.2 else some (false, p.2)
def bOr (c1 c2 : DenB) : DenB := fun σ μ => (c1 σ μ).bind fun p => if p.1 = true then some (true, p.2) else c2 σ p.2
def bNot (c : DenB) : DenB := fun σ μ => (c σ μ).bind fun p => some (!p.1, p.2)
/-- a bool as a test, a test as a bool -/
def bVal (f : Den) : DenB := fun σ μ => (f σ μ).bind fun p => match p.1 with
  | .bool b => some (b, p.2)
  | _ => none
def dVal (c : DenB) : Den := fun σ μ => (c σ μ).bind fun p => some (.bool p.1, p.2)

theorem bind_some {α β : Type} {x : Option α} {f : α → Option β} {b : β} (h : x.bind f = some b) : ∃ a, x = some a ∧ f a = some b := by
  cases x with
  | none => cases h
  | some a => exact ⟨a, rfl, h⟩

theorem _root_.L2.PE.to {X : Cx} {e : Expr} {t u : TE} (h : PE X e t) (k : ∀ τ H Q, u τ H Q → t τ H Q) : PE X e u := ⟨fun pins s τ H Q I q => h.run pins s τ H Q I (k τ H Q q)⟩
theorem _root_.L2.PT.to {X : Cx} {e : Expr} {t u : TT} (h : PT X e t) (k : ∀ τ H Q, u τ H Q → t τ H Q) : PT X e u := ⟨fun pins s τ H Q I q => h.run pins s τ H Q I (k τ H Q q)⟩
theorem _root_.L2.PA.to {X : Cx} {e : List Expr} {t u : TA} (h : PA X e t) (k : ∀ τ H Q, u τ H Q → t τ H Q) : PA X e u := ⟨fun pos pins s τ H Q I q => h.run pos pins s τ H Q I (k τ H Q q)⟩
theorem _root_.L2.PS.to {X : Cx} {st : Stmt} {t u : TS} (h : PS X st t) (k : ∀ E τ H, u E τ H → t E τ H) : PS X st u := ⟨fun pins s τ H E I q => h.run pins s τ H E I (k E τ H q)⟩
theorem _root_.L2.PSs.to {X : Cx} {st : List Stmt} {t u : TS} (h : PSs X st t) (k : ∀ E τ H, u E τ H → t E τ H) : PSs X st u := ⟨fun pins s τ H E I q => h.run pins s τ H E I (k E τ H q)⟩
theorem _root_.L2.OpR.to {X : Cx} {f : Value → Value → Sem Value} {r r' : R2} (h : OpR X f r) (k : ∀ x y H Q, r' x y H Q → r x y H Q) : OpR X f r' := fun pins s τ H x y v u Q I a b q => h pins s τ H x y v u Q I a b (k x y H Q q)
theorem _root_.L2.UnR.to {X : Cx} {f : Value → Sem Value} {r r' : V → Hp → VK → Prop} (h : UnR X f r) (k : ∀ x H Q, r' x H Q → r x H Q) : UnR X f r' := fun pins s τ H x v Q I a q => h pins s τ H x v Q I a (k x H Q q)
theorem _root_.L2.CallR.to {X : Cx} {f : Value} {r r' : List V → Hp → VK → Prop} (h : CallR X f r) (k : ∀ x H Q, r' x H Q → r x H Q) : CallR X f r' := fun pins s τ H x v Q I a q => h pins s τ H x v Q I a (k x H Q q)
theorem _root_.L2.MtR.to {X : Cx} {f : String} {r r' : V → List V → Hp → VK → Prop} (h : MtR X f r) (k : ∀ x xs H Q, r' x xs H Q → r x xs H Q) : MtR X f r' := fun pins s τ H x xs v us Q I a b q => h pins s τ H x xs v us Q I a b (k x xs H Q q)
theorem _root_.L2.IxR.to {X : Cx} {r r' : R2} (h : IxR X r) (k : ∀ x y H Q, r' x y H Q → r x y H Q) : IxR X r' := fun a b pins s τ H x y v u Q I r1 r2 q => h a b pins s τ H x y v u Q I r1 r2 (k x y H Q q)
theorem _root_.L2.SlR.to {X : Cx} {r r' : V → Option Int → Option Int → Hp → VK → Prop} (h : L2.SlR X r) (k : ∀ x l u H Q, r' x l u H Q → r x l u H Q) : L2.SlR X r' :=
  fun pins s τ H x v vl vu lo hi sl Q I rx hs pl pu q => h pins s τ H x v vl vu lo hi sl Q I rx hs pl pu (k x lo hi H Q q)
end Dn
end

section
set_option maxRecDepth 100000
set_option maxHeartbeats 4000000
/-! Dn2: expressions -/
namespace Dn
open PySem PySem.Spec PyProof.Rows L2

def asRf : D → Option Nat
  | .dict [(.dict [], .int (.ofNat n))] => some n
  | _ => none
theorem asRf_rf (n : Nat) : asRf (rf n) = some n := rfl
theorem asRf_some {d : D} {n : Nat} (h : asRf d = some n) : d = rf n := by
  unfold asRf at h
  split at h
  · cases h; rfl
  · cases h
/-- what stands there: a list of the store looked up -/
def px (d : D) (μ : Sto) : D := match asRf d with
  | some n => match μ[n]? with
    | some (.lst xs) => .list xs
    | _ => d
  | none => d
def asFz : D → Option (List D)
  | .dict [(.dict [], .list xs)] => some xs
  | _ => none
theorem asFz_some {d : D} {xs : List D} (h : asFz d = some xs) : d = fz xs := by
  unfold asFz at h
  split at h
  · cases h; rfl
  · cases h
def pk (d : D) (μ : Sto) : D := match asFz d with
  | some xs => .list xs
  | none => px d μ
section
variable {B : Kx} {ι ι' : Ix} {μ : Sto} {H H' : Hp}
/-- .. a list as one that may be written -/
inductive Px (B : Kx) (ι : Ix) (H : Hp) : V → D → Prop
  | lst {a : Addr} {xs : List V} {ds : List D} : H a = some (.lst xs) → Reps B ι H xs ds → Px B ι H (.ref a) (.list ds)
  | oth {v : V} {d : D} : Rep B ι H v d → (∀ ds, d ≠ .list ds) → Px B ι H v d
inductive Pk (B : Kx) (ι : Ix) (H : Hp) : V → D → Prop
  | lst {a : Addr} {xs : List V} {ds : List D} : SqL B.K H a xs → Reps B ι H xs ds → Pk B ι H (.ref a) (.list ds)
  | oth {v : V} {d : D} : Rep B ι H v d → (∀ ds, d ≠ .list ds) → Pk B ι H v d
theorem sq_of {K : PySem.W.Frag} {H : Hp} {a : Addr} {xs : List V} (h : H a = some (.lst xs)) : SqL K H a xs := .inl (.inl h)
theorem rf_nl (n : Nat) (ds : List D) : rf n ≠ .list ds := by unfold rf; intro z; cases z
theorem fz_nl (n : List D) (ds : List D) : fz n ≠ .list ds := by unfold fz; intro z; cases z
theorem Rep.px0 {v : V} {d : D} (r : Rep B ι H v d) : Px B ι H v d := by
  cases r with
  | lst h n r => exact .lst h r
  | non => exact .oth .non (by intro _ z; cases z)
  | bl b => exact .oth (.bl b) (by intro _ z; cases z)
  | int b => exact .oth (.int b) (by intro _ z; cases z)
  | str b => exact .oth (.str b) (by intro _ z; cases z)
  | tup h r => exact .oth (.tup h r) (by intro _ z; cases z)
  | fz h r => exact .oth (.fz h r) (fz_nl _)
  | rf h => exact .oth (.rf h) (rf_nl _)
theorem px_ok (S : SR B ι μ H) {v : V} {d : D} (r : Rep B ι H v d) : Px B ι H v (px d μ) := by
  unfold px
  split
  · rename_i n hn
    have e := asRf_some hn
    subst e
    split
    · rename_i xs hx
      obtain ⟨a, rfl, e, vs, h, rs⟩ := S.at r hx
      exact .lst h rs
    · exact r.px0
  · exact r.px0
theorem Px.pk {v : V} {d : D} (r : Px B ι H v d) : Pk B ι H v d := by
  cases r with
  | lst h r => exact .lst (sq_of h) r
  | oth r n => exact .oth r n
theorem pk_ok (S : SR B ι μ H) {v : V} {d : D} (r : Rep B ι H v d) : Pk B ι H v (pk d μ) := by
  unfold pk
  split
  · rename_i xs hx
    have e := asFz_some hx
    subst e
    generalize hd : fz xs = d at r
    cases r with
    | fz h rs =>
      unfold fz at hd
      injection hd with hd
      injection hd with hd _
      injection hd with _ hd
      injection hd with hd
      subst hd
      exact .lst h.sq rs
    | rf h => unfold rf fz at hd; injection hd with hd; injection hd with hd _; injection hd with _ hd; cases hd
    | _ => exact absurd hd (by unfold fz; intro z; cases z)
  · exact (px_ok S r).pk
theorem Px.int {v : V} {i : Int} (r : Px B ι H v (.int i)) : v = .int i := by
  cases r with | oth r _ => cases r; rfl
theorem Pk.int {v : V} {i : Int} (r : Pk B ι H v (.int i)) : v = .int i := by
  cases r with | oth r _ => cases r; rfl
theorem Px.str {v : V} {i : Str} (r : Px B ι H v (.str i)) : v = .str i := by
  cases r with | oth r _ => cases r; rfl
theorem Px.bool {v : V} {i : Bool} (r : Px B ι H v (.bool i)) : v = .bl i := by
  cases r with | oth r _ => cases r; rfl
theorem Px.list {v : V} {ds : List D} (r : Px B ι H v (.list ds)) : ∃ a xs, v = .ref a ∧ H a = some (.lst xs) ∧ Reps B ι H xs ds := by
  cases r with
  | lst h r => exact ⟨_, _, rfl, h, r⟩
  | oth r n => exact absurd rfl (n _)
theorem Pk.list {v : V} {ds : List D} (r : Pk B ι H v (.list ds)) : ∃ a xs, v = .ref a ∧ SqL B.K H a xs ∧ Reps B ι H xs ds := by
  cases r with
  | lst h r => exact ⟨_, _, rfl, h, r⟩
  | oth r n => exact absurd rfl (n _)
theorem Px.tup {v : V} {ds : List D} (r : Px B ι H v (.tuple ds)) : ∃ a xs, v = .ref a ∧ TAt B ι H a xs ∧ Reps B ι H xs ds := by
  cases r with | oth r _ => cases r with | tup h r => exact ⟨_, _, rfl, h, r⟩
theorem Pk.tup {v : V} {ds : List D} (r : Pk B ι H v (.tuple ds)) : ∃ a xs, v = .ref a ∧ TAt B ι H a xs ∧ Reps B ι H xs ds := by
  cases r with | oth r _ => cases r with | tup h r => exact ⟨_, _, rfl, h, r⟩
mutual
theorem Rep.dp {v : V} {d : D} (r : Rep B ι H v d) (h : d.canLay0 = true) : Dp B.K H v d := match r with
  | .non => .non
  | .bl b => .bl b
  | .int i => .int i
  | .str x => .str x
  | .lst e n q => .lst (sq_of e) (Reps.dp q (by simpa [PyData.canLay0] using h))
  | .tup e q => .tup e.sq (Reps.dp q (by simpa [PyData.canLay0] using h))
  | .fz _ _ => by simp [fz, PyData.canLay0] at h
  | .rf _ => by simp [rf, PyData.canLay0] at h
theorem Reps.dp {vs : List V} {ds : List D} (r : Reps B ι H vs ds) (h : PyData.canLayAll0 ds = true) : DpAll B.K H vs ds := match r with
  | .nil => .nil
  | .cons a b => .cons (Rep.dp a (by simp [PyData.canLayAll0] at h; exact h.1)) (Reps.dp b (by simp [PyData.canLayAll0] at h; exact h.2))
end
theorem Pk.dp {v : V} {d : D} (r : Pk B ι H v d) (h : d.canLay0 = true) : Dp B.K H v d := by
  cases r with
  | lst e q => exact .lst e (q.dp (by simpa [PyData.canLay0] using h))
  | oth r _ => exact r.dp h
end

/-! ### the rules: leaves -/
section
variable {X : Cx}
theorem e_var (i : Nat) {x : Str} {pos : Pos} (hN : X.N[i]? = some x := by rfl) (hv : Vis X.env.scope x := by first | exact Or.inl rfl | exact Or.inr (Or.inl rfl) | exact Or.inr (Or.inr rfl)) (hd : (x == ("__debug__" : Str)) = false := by decide)
    (hcd : (x == ("__classdict__" : Str)) = false := by decide) : PE X (.Name x pos) (dE (bx X) (dVar i)) := by
  refine (pe_var (i := i) hN hv hd hcd).to fun τ H Q h => ?_
  obtain ⟨ι, σ, μ, d, μ', R, e, k⟩ := h
  unfold dVar at e
  split at e
  · rename_i d' hd
    cases e
    obtain ⟨v, hv, r⟩ := R.slot i d hd
    exact ⟨v, hv, k v ι H (.refl ι H) R r⟩
  · cases e
theorem e_const {e : Expr} {v : V} {d : D} (h : PE X e (tC v)) (r : ∀ B ι H, Rep B ι H v d) : PE X e (dE (bx X) (dC d)) := by
  refine h.to fun τ H Q h => ?_
  obtain ⟨ι, σ, μ, d', μ', R, e, k⟩ := h
  cases e
  exact k v ι H (.refl ι H) R (r _ _ _)
theorem e_int {i : Int} {j pos} : PE X (.Constant (.int i) j pos) (dE (bx X) (dC (.int i))) := e_const pe_int fun _ _ _ => .int i
theorem e_bl {b : Bool} {j pos} : PE X (.Constant (.bool b) j pos) (dE (bx X) (dC (.bool b))) := e_const pe_bl fun _ _ _ => .bl b
theorem e_non {j pos} : PE X (.Constant .none j pos) (dE (bx X) (dC .none)) := e_const pe_non fun _ _ _ => .non
theorem e_str {x : String} {j pos} : PE X (.Constant (.str x) j pos) (dE (bx X) (dC (.str x))) := e_const pe_str fun _ _ _ => .str x
/-- a constant of the module -/
theorem e_glob {x : Str} {v : V} {d : D} {u : Value} {pos : Pos} (hg : Gl X x) (hm : X.mg x = some u) (r : RelV v u) (q : ∀ ι H, Rep (bx X) ι H v d) (hd : (x == ("__debug__" : Str)) = false := by decide) : PE X (.Name x pos) (dE (bx X) (dC d)) := by
  refine (pe_glob hg hm r hd).to fun τ H Q h => ?_
  obtain ⟨ι, σ, μ, d', μ', R, e, k⟩ := h
  cases e
  exact k v ι H (.refl ι H) R (q _ _)

/-! ### operators, by values -/
variable {a b c : Expr} {fa fb fc : Den} {pos : Pos}
theorem go2 {B : Kx} {g : D → D → M D} {τ : L2.St} {H : Hp} {Q : VK} (h : dE B (d2 g fa fb) τ H Q) : dE B fa τ H fun x H1 => dE B fb τ H1 fun y H2 => v2 B g x y H2 Q := by
  obtain ⟨ι, σ, μ, d, μ', R, e, k⟩ := h
  obtain ⟨⟨d1, μ1⟩, e1, e⟩ := bind_some e
  obtain ⟨⟨d2, μ2⟩, e2, e⟩ := bind_some e
  refine ⟨ι, σ, μ, d1, μ1, R, e1, fun x ι1 H1 F1 R1 r1 => ⟨ι1, σ, μ1, d2, μ2, R1, e2, fun y ι2 H2 F2 R2 r2 => ?_⟩⟩
  exact ⟨ι2, μ2, d1, d2, d, μ', R2.sr, r1.mono F2, r2, e, fun v ι3 H3 F3 S3 r3 => k v ι3 H3 ((F1.trans F2).trans F3) (R2.mono F3 S3) r3⟩
theorem go1 {B : Kx} {g : D → M D} {τ : L2.St} {H : Hp} {Q : VK} (h : dE B (d1 g fa) τ H Q) : dE B fa τ H fun x H1 => v1 B g x H1 Q := by
  obtain ⟨ι, σ, μ, d, μ', R, e, k⟩ := h
  obtain ⟨⟨d1, μ1⟩, e1, e⟩ := bind_some e
  refine ⟨ι, σ, μ, d1, μ1, R, e1, fun x ι1 H1 F1 R1 r1 => ?_⟩
  exact ⟨ι1, μ1, d1, d, μ', R1.sr, r1, e, fun v ι3 H3 F3 S3 r3 => k v ι3 H3 (F1.trans F3) (R1.mono F3 S3) r3⟩
theorem e_op {op : Operator} {g : D → D → M D} (ho : OpR X (binaryOp op) (v2 (bx X) g)) (ha : PE X a (dE (bx X) fa)) (hb : PE X b (dE (bx X) fb)) : PE X (.BinOp a op b pos) (dE (bx X) (d2 g fa fb)) :=
  (pe_op ho ha hb).to fun _ _ _ h => go2 h
theorem e_un {op : UnaryOp} {g : D → M D} (ho : UnR X (unaryOp op) (v1 (bx X) g)) (ha : PE X a (dE (bx X) fa)) : PE X (.UnaryOp op a pos) (dE (bx X) (d1 g fa)) :=
  (pe_un ho ha).to fun _ _ _ h => go1 h
theorem e_cmp {op : CmpOp} {g : D → D → M D} (ho : OpR X (compareOp op) (v2 (bx X) g)) (ha : PE X a (dE (bx X) fa)) (hb : PE X b (dE (bx X) fb)) (hm : behindInMarks op b = false := by first | exact nobehind _ (by decide) (by decide) | rfl) : PE X (.Compare a [op] [b] pos) (dE (bx X) (d2 g fa fb)) :=
  (pe_cmpR ho ha hb hm).to fun _ _ _ h => go2 h
theorem e_ix {g : D → D → M D} (ho : IxR X (v2 (bx X) g)) (ha : PE X a (dE (bx X) fa)) (hb : PE X b (dE (bx X) fb)) (hs : PlainIx b := by intro _ _; rfl) : PE X (.Subscript a b pos) (dE (bx X) (d2 g fa fb)) :=
  (pe_ix ho ha hb hs).to fun _ _ _ h => go2 h

/-! ### tests -/
/-- a value as a test: it must be a bool -/
theorem goB {B : Kx} {τ : L2.St} {H : Hp} {Q : Bool → Hp → Prop} (h : dT B (bVal fa) τ H Q) : dE B fa τ H fun x H1 => ∃ k, x = .bl k ∧ Q k H1 := by
  obtain ⟨ι, σ, μ, d, μ', R, e, k⟩ := h
  obtain ⟨⟨d1, μ1⟩, e1, e⟩ := bind_some e
  refine ⟨ι, σ, μ, d1, μ1, R, e1, fun x ι1 H1 F1 R1 r1 => ?_⟩
  dsimp only at e
  cases r1 <;> first | (cases e; done) | (cases e; exact ⟨_, rfl, k ι1 H1 F1 R1⟩)
theorem b_cmp {op : CmpOp} {g : D → D → M D} (ho : OpR X (compareOp op) (v2 (bx X) g)) (ha : PE X a (dE (bx X) fa)) (hb : PE X b (dE (bx X) fb)) (hm : behindInMarks op b = false := by first | exact nobehind _ (by decide) (by decide) | rfl) : PT X (.Compare a [op] [b] pos) (dT (bx X) (bVal (d2 g fa fb))) := by
  refine (pt_cmpR ho ha hb hm).to fun τ H Q h => ?_
  obtain ⟨ι, σ, μ, d, μ', R, e, k⟩ := h
  obtain ⟨⟨d1, μ1⟩, e1, e⟩ := bind_some e
  dsimp only at e
  split at e
  · cases e
    refine go2 ⟨ι, σ, μ, _, μ', R, e1, fun v ι1 H1 F1 R1 r1 => ?_⟩
    cases r1
    exact ⟨_, rfl, k ι1 H1 F1 R1⟩
  · cases e
theorem b_val (ha : PE X a (dE (bx X) fa)) (he : ∀ whole, isTrue a X.env whole = (do let v ← whole; standAt a.pos; holding [v] (truthy v)) := by intro _; rfl) : PT X a (dT (bx X) (bVal fa)) :=
  (pt_val ha he).to fun _ _ _ h => goB h
theorem goC {B : Kx} {c1 : DenB} {τ : L2.St} {H : Hp} {Q : Hp → Prop} {Qb : Bool → Hp → Prop} {f : Bool → Env → Sto → Option (Bool × Sto)}
    (h : dT B (fun σ μ => (c1 σ μ).bind fun p => f p.1 σ p.2) τ H Qb) : dT B c1 τ H fun b H1 => dT B (f b) τ H1 Qb := by
  obtain ⟨ι, σ, μ, d, μ', R, e, k⟩ := h
  obtain ⟨⟨b1, μ1⟩, e1, e⟩ := bind_some e
  exact ⟨ι, σ, μ, b1, μ1, R, e1, fun ι1 H1 F1 R1 => ⟨ι1, σ, μ1, d, μ', R1, e, fun ι2 H2 F2 R2 => k ι2 H2 (F1.trans F2) R2⟩⟩
variable {ca cb : DenB} {rest : List Expr}
theorem dT_ret {B : Kx} {b : Bool} {τ : L2.St} {H : Hp} {Q : Bool → Hp → Prop} (h : dT B (fun _ μ => some (b, μ)) τ H Q) : Q b H := by
  obtain ⟨ι, σ, μ, d, μ', R, e, k⟩ := h
  cases e
  exact k ι H (.refl ι H) R
theorem b_not (ha : PT X a (dT (bx X) ca)) : PT X (.UnaryOp .Not a pos) (dT (bx X) (bNot ca)) := by
  refine (pt_not ha).to fun τ H Q h => ?_
  have h2 := goC (Q := fun _ => True) (f := fun b _ μ => some (!b, μ)) h
  obtain ⟨ι, σ, μ, d, μ', R, e, k⟩ := h2
  exact ⟨ι, σ, μ, d, μ', R, e, fun ι1 H1 F1 R1 => dT_ret (k ι1 H1 F1 R1)⟩
theorem goAnd {B : Kx} {τ : L2.St} {H : Hp} {Q : Bool → Hp → Prop} (h : dT B (bAnd ca cb) τ H Q) : tAnd (dT B ca) (dT B cb) τ H Q := by
  have h2 := goC (Q := fun _ => True) (f := fun b σ μ => if b = true then cb σ μ else some (false, μ)) h
  obtain ⟨ι, σ, μ, d, μ', R, e, k⟩ := h2
  refine ⟨ι, σ, μ, d, μ', R, e, fun ι1 H1 F1 R1 => ?_⟩
  have q := k ι1 H1 F1 R1
  cases d with
  | true => exact q
  | false => exact dT_ret q
theorem goOr {B : Kx} {τ : L2.St} {H : Hp} {Q : Bool → Hp → Prop} (h : dT B (bOr ca cb) τ H Q) : tOr (dT B ca) (dT B cb) τ H Q := by
  have h2 := goC (Q := fun _ => True) (f := fun b σ μ => if b = true then some (true, μ) else cb σ μ) h
  obtain ⟨ι, σ, μ, d, μ', R, e, k⟩ := h2
  refine ⟨ι, σ, μ, d, μ', R, e, fun ι1 H1 F1 R1 => ?_⟩
  have q := k ι1 H1 F1 R1
  cases d with
  | true => exact dT_ret q
  | false => exact q
theorem w_and1 (ha : PT X a (dT (bx X) ca)) : PW X (.BoolOp .And [a] pos) (dT (bx X) ca) := pw_and1 ha
theorem w_or1 (ha : PT X a (dT (bx X) ca)) : PW X (.BoolOp .Or [a] pos) (dT (bx X) ca) := pw_or1 ha
theorem w_and (ha : PT X a (dT (bx X) ca)) (hb : PW X (.BoolOp .And (b :: rest) pos) (dT (bx X) cb)) : PW X (.BoolOp .And (a :: b :: rest) pos) (dT (bx X) (bAnd ca cb)) :=
  ⟨fun wh pins s τ H Q I h => (pw_and ha hb).run wh pins s τ H Q I (goAnd h)⟩
theorem w_or (ha : PT X a (dT (bx X) ca)) (hb : PW X (.BoolOp .Or (b :: rest) pos) (dT (bx X) cb)) : PW X (.BoolOp .Or (a :: b :: rest) pos) (dT (bx X) (bOr ca cb)) :=
  ⟨fun wh pins s τ H Q I h => (pw_or ha hb).run wh pins s τ H Q I (goOr h)⟩
/-- and, or, not as values -/
def dAndV (f1 f2 : Den) : Den := fun σ μ => (f1 σ μ).bind fun p => match p.1 with
  | .bool true => f2 σ p.2
  | .bool false => some (.bool false, p.2)
  | _ => none
def dOrV (f1 f2 : Den) : Den := fun σ μ => (f1 σ μ).bind fun p => match p.1 with
  | .bool true => some (.bool true, p.2)
  | .bool false => f2 σ p.2
  | _ => none
def dNotV (f1 : Den) : Den := fun σ μ => (f1 σ μ).bind fun p => match p.1 with
  | .bool b => some (.bool !b, p.2)
  | _ => none
theorem e_one {op} (ha : PE X a (dE (bx X) fa)) : PE X (.BoolOp op [a] pos) (dE (bx X) fa) := pe_one ha
theorem e_and (ha : PE X a (dE (bx X) fa)) (hb : PE X (.BoolOp .And (b :: rest) pos) (dE (bx X) fb)) : PE X (.BoolOp .And (a :: b :: rest) pos) (dE (bx X) (dAndV fa fb)) := by
  refine (pe_and ha hb).to fun τ H Q h => ?_
  obtain ⟨ι, σ, μ, d, μ', R, e, k⟩ := h
  obtain ⟨⟨d1, μ1⟩, e1, e⟩ := bind_some e
  refine ⟨ι, σ, μ, d1, μ1, R, e1, fun x ι1 H1 F1 R1 r1 => ?_⟩
  dsimp only at e
  split at e
  · cases r1
    exact ⟨true, rfl, ι1, σ, μ1, d, μ', R1, e, fun v ι2 H2 F2 R2 r2 => k v ι2 H2 (F1.trans F2) R2 r2⟩
  · cases r1
    cases e
    exact ⟨false, rfl, k _ ι1 H1 F1 R1 (.bl false)⟩
  · cases e
theorem e_or (ha : PE X a (dE (bx X) fa)) (hb : PE X (.BoolOp .Or (b :: rest) pos) (dE (bx X) fb)) : PE X (.BoolOp .Or (a :: b :: rest) pos) (dE (bx X) (dOrV fa fb)) := by
  refine (pe_or ha hb).to fun τ H Q h => ?_
  obtain ⟨ι, σ, μ, d, μ', R, e, k⟩ := h
  obtain ⟨⟨d1, μ1⟩, e1, e⟩ := bind_some e
  refine ⟨ι, σ, μ, d1, μ1, R, e1, fun x ι1 H1 F1 R1 r1 => ?_⟩
  dsimp only at e
  split at e
  · cases r1
    cases e
    exact ⟨true, rfl, k _ ι1 H1 F1 R1 (.bl true)⟩
  · cases r1
    exact ⟨false, rfl, ι1, σ, μ1, d, μ', R1, e, fun v ι2 H2 F2 R2 r2 => k v ι2 H2 (F1.trans F2) R2 r2⟩
  · cases e
theorem e_not (ha : PE X a (dE (bx X) fa)) : PE X (.UnaryOp .Not a pos) (dE (bx X) (dNotV fa)) := by
  refine (pe_not ha).to fun τ H Q h => ?_
  obtain ⟨ι, σ, μ, d, μ', R, e, k⟩ := h
  obtain ⟨⟨d1, μ1⟩, e1, e⟩ := bind_some e
  refine ⟨ι, σ, μ, d1, μ1, R, e1, fun x ι1 H1 F1 R1 r1 => ?_⟩
  dsimp only at e
  split at e
  · cases r1
    cases e
    exact ⟨_, rfl, k _ ι1 H1 F1 R1 (.bl _)⟩
  · cases e
theorem e_if (hc : PT X c (dT (bx X) ca)) (ha : PE X a (dE (bx X) fa)) (hb : PE X b (dE (bx X) fb)) : PE X (.IfExp c a b pos) (dE (bx X) (dIf ca fa fb)) := by
  refine (pe_ifExp hc ha hb).to fun τ H Q h => ?_
  obtain ⟨ι, σ, μ, d, μ', R, e, k⟩ := h
  obtain ⟨⟨b1, μ1⟩, e1, e⟩ := bind_some e
  refine ⟨ι, σ, μ, b1, μ1, R, e1, fun ι1 H1 F1 R1 => ?_⟩
  cases b1 with
  | true => exact ⟨ι1, σ, μ1, d, μ', R1, e, fun v ι2 H2 F2 R2 r2 => k v ι2 H2 (F1.trans F2) R2 r2⟩
  | false => exact ⟨ι1, σ, μ1, d, μ', R1, e, fun v ι2 H2 F2 R2 r2 => k v ι2 H2 (F1.trans F2) R2 r2⟩
/-- x is None, x is not None -/
def dIsN (f : Den) : Den := fun σ μ => (f σ μ).bind fun p => match p.1 with
  | .none => some (.bool true, p.2)
  | _ => some (.bool false, p.2)
def dNotN (f : Den) : Den := fun σ μ => (f σ μ).bind fun p => match p.1 with
  | .none => some (.bool false, p.2)
  | _ => some (.bool true, p.2)
theorem goIsN {B : Kx} {τ : L2.St} {H : Hp} {Q : VK} (h : dE B (dIsN fa) τ H Q) : tIsN (dE B fa) τ H Q := by
  obtain ⟨ι, σ, μ, d, μ', R, e, k⟩ := h
  obtain ⟨⟨d1, μ1⟩, e1, e⟩ := bind_some e
  refine ⟨ι, σ, μ, d1, μ1, R, e1, fun x ι1 H1 F1 R1 r1 => ?_⟩
  dsimp only at e
  cases r1 <;> (first | (rename_i y; have e9 := y) | skip) <;> (cases e; exact k _ ι1 H1 F1 R1 (.bl _))
theorem goNotN {B : Kx} {τ : L2.St} {H : Hp} {Q : VK} (h : dE B (dNotN fa) τ H Q) : tNotN (dE B fa) τ H Q := by
  obtain ⟨ι, σ, μ, d, μ', R, e, k⟩ := h
  obtain ⟨⟨d1, μ1⟩, e1, e⟩ := bind_some e
  refine ⟨ι, σ, μ, d1, μ1, R, e1, fun x ι1 H1 F1 R1 r1 => ?_⟩
  dsimp only at e
  cases r1 <;> (cases e; exact k _ ι1 H1 F1 R1 (.bl _))
theorem e_isN {j pos'} (ha : PE X a (dE (bx X) fa)) : PE X (.Compare a [.Is] [.Constant .none j pos'] pos) (dE (bx X) (dIsN fa)) := (pe_cmp (pc_isN ha)).to fun _ _ _ h => goIsN h
theorem e_notN {j pos'} (ha : PE X a (dE (bx X) fa)) : PE X (.Compare a [.IsNot] [.Constant .none j pos'] pos) (dE (bx X) (dNotN fa)) := (pe_cmp (pc_notN ha)).to fun _ _ _ h => goNotN h
theorem b_isN {j pos'} (ha : PE X a (dE (bx X) fa)) : PT X (.Compare a [.Is] [.Constant .none j pos'] pos) (dT (bx X) (bVal (dIsN fa))) := (pt_cmp (pc_isN ha)).to fun τ H Q h => by
  have h2 := goB h
  exact goIsN h2
theorem b_notN {j pos'} (ha : PE X a (dE (bx X) fa)) : PT X (.Compare a [.IsNot] [.Constant .none j pos'] pos) (dT (bx X) (bVal (dNotN fa))) := (pt_cmp (pc_notN ha)).to fun τ H Q h => by
  have h2 := goB h
  exact goNotN h2
end
end Dn
end

section
set_option maxRecDepth 100000
set_option maxHeartbeats 4000000
/-! Dn3: operators by values -/
namespace Dn
open PySem PySem.Spec PyProof.Rows L2

/-- the longest list or tuple that is made -/
def lim : Nat := 1000000
theorem lim_sz {n : Nat} (h : n ≤ lim) : n ≤ sizeLine := Nat.le_trans h (by decide)
theorem lim_lt {n : Nat} (h : n < lim) : n < sizeLine := Nat.lt_of_lt_of_le h (by decide)
section
variable {X : Cx}
theorem OpR.or {f : Value → Value → Sem Value} {r r' : R2} (h : OpR X f r) (h' : OpR X f r') : OpR X f fun x y H Q => r x y H Q ∨ r' x y H Q := fun pins s τ H x y v u Q I a b q =>
  q.elim (h pins s τ H x y v u Q I a b) (h' pins s τ H x y v u Q I a b)
theorem CallR.or {f : Value} {r r' : List V → Hp → VK → Prop} (h : CallR X f r) (h' : CallR X f r') : CallR X f fun x H Q => r x H Q ∨ r' x H Q := fun pins s τ H x v Q I a q =>
  q.elim (h pins s τ H x v Q I a) (h' pins s τ H x v Q I a)

/-- ways to end a rule: a scalar; a new list, a new tuple; what is there -/
theorem end_lst {B : Kx} {ι : Ix} {μ : Sto} {H : Hp} {Q : VK} {xs : List V} {ds : List D} (S : SR B ι μ H) (r : Reps B ι H xs ds)
    (k : ∀ v ι' H', Fra ι ι' H H' → SR B ι' μ H' → Rep B ι' H' v (.list ds) → Q v H') : ∀ p, H p = none → Q (.ref p) (upd H p (.lst xs)) := fun p hp =>
  k _ ι _ (S.fra hp) (S.fresh hp) (.lst upd_same (S.out hp) (r.mono (S.fra hp)))
theorem end_tup {B : Kx} {ι : Ix} {μ : Sto} {H : Hp} {Q : VK} {xs : List V} {ds : List D} (S : SR B ι μ H) (r : Reps B ι H xs ds)
    (k : ∀ v ι' H', Fra ι ι' H H' → SR B ι' μ H' → Rep B ι' H' v (.tuple ds) → Q v H') : ∀ p, H p = none → Q (.ref p) (upd H p (.tup xs)) := fun p hp =>
  k _ ι _ (S.fra hp) (S.fresh hp) (.tup (.inl ⟨.inl upd_same, S.out hp⟩) (r.mono (S.fra hp)))

/-! ### + - * % // -/
def gAdd : D → D → M D := fun a b μ => match px a μ, px b μ with
  | .int i, .int j => some (.int (i + j), μ)
  | .list xs, .list ys => if xs.length + ys.length ≤ lim then some (.list (xs ++ ys), μ) else none
  | .tuple xs, .tuple ys => if xs.length + ys.length ≤ lim then some (.tuple (xs ++ ys), μ) else none
  | _, _ => none
theorem o_add : OpR X (binaryOp .Add) (v2 (bx X) gAdd) := (OpR.or op_add (OpR.or op_cat op_catA)).to fun x y H Q h => by
  obtain ⟨ι, μ, dx, dy, d, μ', S, rx, ry, e, k⟩ := h
  have px := px_ok S rx
  have py := px_ok S ry
  unfold gAdd at e
  generalize Dn.px dx μ = a at px e
  generalize Dn.px dy μ = b at py e
  split at e
  · cases e
    exact .inl ⟨_, _, px.int, py.int, k _ ι H (.refl ι H) S (.int _)⟩
  · split at e
    · rename_i hl
      cases e
      obtain ⟨p, xs, rfl, hp, rp⟩ := px.list
      obtain ⟨q, ys, rfl, hq, rq⟩ := py.list
      refine .inr (.inl ⟨p, q, xs, ys, rfl, rfl, hp, hq, ?_, end_lst S (rp.append rq) k⟩)
      rw [rp.length, rq.length]
      exact lim_sz hl
    · cases e
  · split at e
    · rename_i hl
      cases e
      obtain ⟨p, xs, rfl, hp, rp⟩ := px.tup
      obtain ⟨q, ys, rfl, hq, rq⟩ := py.tup
      refine .inr (.inr ⟨p, q, xs, ys, rfl, rfl, hp.sq, hq.sq, ?_, fun z => ?_, fun _ z => ?_, fun _ _ => end_tup S (rp.append rq) k⟩)
      · rw [rp.length, rq.length]
        exact lim_sz hl
      · subst z
        exact k _ ι H (.refl ι H) S (.tup hq (rp.append rq))
      · subst z
        refine k _ ι H (.refl ι H) S (.tup hp ?_)
        have q := rp.append rq
        rwa [List.append_nil] at q
    · cases e
  · cases e
def gSub : D → D → M D := fun a b μ => match a, b with
  | .int i, .int j => some (.int (i - j), μ)
  | _, _ => none
theorem o_sub : OpR X (binaryOp .Sub) (v2 (bx X) gSub) := op_sub.to fun x y H Q h => by
  obtain ⟨ι, μ, dx, dy, d, μ', S, rx, ry, e, k⟩ := h
  unfold gSub at e
  split at e
  · cases rx; cases ry; cases e
    exact ⟨_, _, rfl, rfl, k _ ι H (.refl ι H) S (.int _)⟩
  · cases e
def gMod : D → D → M D := fun a b μ => match a, b with
  | .int i, .int j => if 0 < j then some (.int (i % j), μ) else none
  | _, _ => none
theorem o_mod : OpR X (binaryOp .Mod) (v2 (bx X) gMod) := op_mod.to fun x y H Q h => by
  obtain ⟨ι, μ, dx, dy, d, μ', S, rx, ry, e, k⟩ := h
  unfold gMod at e
  split at e
  · split at e
    · rename_i hj
      cases rx; cases ry; cases e
      exact ⟨_, _, rfl, rfl, hj, k _ ι H (.refl ι H) S (.int _)⟩
    · cases e
  · cases e
def gFdiv : D → D → M D := fun a b μ => match a, b with
  | .int i, .int j => if 0 < j ∧ j < 1073741824 then some (.int (i / j), μ) else none
  | _, _ => none
theorem o_fdiv : OpR X (binaryOp .FloorDiv) (v2 (bx X) gFdiv) := op_fdiv.to fun x y H Q h => by
  obtain ⟨ι, μ, dx, dy, d, μ', S, rx, ry, e, k⟩ := h
  unfold gFdiv at e
  split at e
  · split at e
    · rename_i hj
      cases rx; cases ry; cases e
      exact ⟨_, _, rfl, rfl, hj, k _ ι H (.refl ι H) S (.int _)⟩
    · cases e
  · cases e
def gNeg : D → M D := fun a μ => match a with
  | .int i => some (.int (-i), μ)
  | _ => none
theorem u_neg : UnR X (unaryOp .USub) (v1 (bx X) gNeg) := un_neg.to fun x H Q h => by
  obtain ⟨ι, μ, dx, d, μ', S, rx, e, k⟩ := h
  unfold gNeg at e
  split at e
  · cases rx; cases e
    exact ⟨_, rfl, k _ ι H (.refl ι H) S (.int _)⟩
  · cases e

/-! ### comparisons -/
def gLt : D → D → M D := fun a b μ => match a, b with
  | .int i, .int j => some (.bool (decide (i < j)), μ)
  | _, _ => none
def gLe : D → D → M D := fun a b μ => match a, b with
  | .int i, .int j => some (.bool (decide (i ≤ j)), μ)
  | _, _ => none
def gGt : D → D → M D := fun a b μ => match a, b with
  | .int i, .int j => some (.bool (decide (j < i)), μ)
  | _, _ => none
def gGe : D → D → M D := fun a b μ => match a, b with
  | .int i, .int j => some (.bool (decide (j ≤ i)), μ)
  | _, _ => none
theorem o_lt : OpR X (compareOp .Lt) (v2 (bx X) gLt) := op_lt.to fun x y H Q h => by
  obtain ⟨ι, μ, dx, dy, d, μ', S, rx, ry, e, k⟩ := h
  unfold gLt at e
  split at e
  · cases rx; cases ry; cases e
    exact ⟨_, _, rfl, rfl, k _ ι H (.refl ι H) S (.bl _)⟩
  · cases e
theorem o_le : OpR X (compareOp .LtE) (v2 (bx X) gLe) := op_le.to fun x y H Q h => by
  obtain ⟨ι, μ, dx, dy, d, μ', S, rx, ry, e, k⟩ := h
  unfold gLe at e
  split at e
  · cases rx; cases ry; cases e
    exact ⟨_, _, rfl, rfl, k _ ι H (.refl ι H) S (.bl _)⟩
  · cases e
theorem o_gt : OpR X (compareOp .Gt) (v2 (bx X) gGt) := op_gt.to fun x y H Q h => by
  obtain ⟨ι, μ, dx, dy, d, μ', S, rx, ry, e, k⟩ := h
  unfold gGt at e
  split at e
  · cases rx; cases ry; cases e
    exact ⟨_, _, rfl, rfl, k _ ι H (.refl ι H) S (.bl _)⟩
  · cases e
theorem o_ge : OpR X (compareOp .GtE) (v2 (bx X) gGe) := op_ge.to fun x y H Q h => by
  obtain ⟨ι, μ, dx, dy, d, μ', S, rx, ry, e, k⟩ := h
  unfold gGe at e
  split at e
  · cases rx; cases ry; cases e
    exact ⟨_, _, rfl, rfl, k _ ι H (.refl ι H) S (.bl _)⟩
  · cases e
/-- ==, != of data at any depth -/
def gEq : D → D → M D := fun a b μ => if SeqAt.shaped (pk a μ) = true ∧ SeqAt.shaped (pk b μ) = true then some (.bool (PyData.eqv (pk a μ) (pk b μ)), μ) else none
def gNe : D → D → M D := fun a b μ => if SeqAt.shaped (pk a μ) = true ∧ SeqAt.shaped (pk b μ) = true then some (.bool (!PyData.eqv (pk a μ) (pk b μ)), μ) else none
theorem o_eq (hu : X.A.units + 64 < cLine) : OpR X (compareOp .Eq) (v2 (bx X) gEq) := (op_eqD hu).to fun x y H Q h => by
  obtain ⟨ι, μ, dx, dy, d, μ', S, rx, ry, e, k⟩ := h
  have px := pk_ok S rx
  have py := pk_ok S ry
  unfold gEq at e
  split at e
  · rename_i hs
    cases e
    exact ⟨_, _, px.dp (SeqAt.canLay_of_shaped hs.1), py.dp (SeqAt.canLay_of_shaped hs.2), hs.1, hs.2, k _ ι H (.refl ι H) S (.bl _)⟩
  · cases e
theorem o_ne (hu : X.A.units + 64 < cLine) : OpR X (compareOp .NotEq) (v2 (bx X) gNe) := (op_neD hu).to fun x y H Q h => by
  obtain ⟨ι, μ, dx, dy, d, μ', S, rx, ry, e, k⟩ := h
  have px := pk_ok S rx
  have py := pk_ok S ry
  unfold gNe at e
  split at e
  · rename_i hs
    cases e
    exact ⟨_, _, px.dp (SeqAt.canLay_of_shaped hs.1), py.dp (SeqAt.canLay_of_shaped hs.2), hs.1, hs.2, k _ ι H (.refl ι H) S (.bl _)⟩
  · cases e
/-- in, not in: lists and tuples of data -/
def seqOf : D → Option (List D)
  | .list xs => some xs
  | .tuple xs => some xs
  | _ => none
def gIn : D → D → M D := fun a b μ => match seqOf (pk b μ) with
  | some xs => if SeqAt.shaped a = true ∧ PyData.canLayAll0 xs = true then some (.bool (xs.any fun z => PyData.eqv z a), μ) else none
  | none => none
def gNotIn : D → D → M D := fun a b μ => match seqOf (pk b μ) with
  | some xs => if SeqAt.shaped a = true ∧ PyData.canLayAll0 xs = true then some (.bool (!xs.any fun z => PyData.eqv z a), μ) else none
  | none => none
theorem o_in (hu : X.A.units + 65 < cLine) : OpR X (compareOp .In) (v2 (bx X) gIn) := by
  intro pins s τ H x y v u Q I rx ry h
  obtain ⟨ι, μ, dx, dy, d, μ', S, px, py, e, k⟩ := h
  have py := pk_ok S py
  unfold gIn at e
  generalize Dn.pk dy μ = b at py e
  split at e
  · rename_i xs hx
    split at e
    · rename_i hs
      cases e
      obtain ⟨as, r1⟩ := Dp.reads I dx x v (px.dp (SeqAt.canLay_of_shaped hs.1)) rx
      unfold seqOf at hx
      split at hx
      · cases hx
        obtain ⟨bs, r2⟩ := Dp.reads I (.list xs) y u (py.dp (by simpa [PyData.canLay0] using hs.2)) ry
        exact SeqAt.in_list_reads r2 r1 hs.2 (SeqAt.canLay_of_shaped hs.1) (room_in_shaped hs.1 hu) ⟨.bl _, H, I, rfl, k _ ι H (.refl ι H) S (.bl _)⟩
      · cases hx
        obtain ⟨bs, r2⟩ := Dp.reads I (.tuple xs) y u (py.dp (by simpa [PyData.canLay0] using hs.2)) ry
        exact SeqAt.in_tuple_reads r2 r1 hs.2 (SeqAt.canLay_of_shaped hs.1) (room_in_shaped hs.1 hu) ⟨.bl _, H, I, rfl, k _ ι H (.refl ι H) S (.bl _)⟩
      · cases hx
    · cases e
  · cases e
theorem o_notIn (hu : X.A.units + 65 < cLine) : OpR X (compareOp .NotIn) (v2 (bx X) gNotIn) := by
  intro pins s τ H x y v u Q I rx ry h
  obtain ⟨ι, μ, dx, dy, d, μ', S, px, py, e, k⟩ := h
  have py := pk_ok S py
  unfold gNotIn at e
  generalize Dn.pk dy μ = b at py e
  split at e
  · rename_i xs hx
    split at e
    · rename_i hs
      cases e
      obtain ⟨as, r1⟩ := Dp.reads I dx x v (px.dp (SeqAt.canLay_of_shaped hs.1)) rx
      unfold seqOf at hx
      split at hx
      · cases hx
        obtain ⟨bs, r2⟩ := Dp.reads I (.list xs) y u (py.dp (by simpa [PyData.canLay0] using hs.2)) ry
        exact SeqAt.notIn_list_reads r2 r1 hs.2 (SeqAt.canLay_of_shaped hs.1) (room_in_shaped hs.1 hu) ⟨.bl _, H, I, rfl, k _ ι H (.refl ι H) S (.bl _)⟩
      · cases hx
        obtain ⟨bs, r2⟩ := Dp.reads I (.tuple xs) y u (py.dp (by simpa [PyData.canLay0] using hs.2)) ry
        exact SeqAt.notIn_tuple_reads r2 r1 hs.2 (SeqAt.canLay_of_shaped hs.1) (room_in_shaped hs.1 hu) ⟨.bl _, H, I, rfl, k _ ι H (.refl ι H) S (.bl _)⟩
      · cases hx
    · cases e
  · cases e

/-! ### subscripts -/
theorem atI_rep {B : Kx} {ι : Ix} {H : Hp} {vs : List V} {ds : List D} {i : Int} {d : D} (r : Reps B ι H vs ds) (h : atI ds i = some d) : ∃ v, atI vs i = some v ∧ Rep B ι H v d := by
  unfold atI at h ⊢
  rw [r.length]
  obtain ⟨j, e1, e2⟩ := bind_some h
  rw [e1]
  exact r.get e2
def gIx : D → D → M D := fun a b μ => match pk a μ, b with
  | .list xs, .int i => (atI xs i).map fun d => (d, μ)
  | .tuple xs, .int i => (atI xs i).map fun d => (d, μ)
  | _, _ => none
theorem x_ix : IxR X (v2 (bx X) gIx) := (ix_list.or ix_tup).to fun x y H Q h => by
  obtain ⟨ι, μ, dx, dy, d, μ', S, rx, ry, e, k⟩ := h
  have px := pk_ok S rx
  unfold gIx at e
  generalize Dn.pk dx μ = a at px e
  split at e
  · obtain ⟨d1, h1, h2⟩ := Option.map_eq_some_iff.mp e
    cases h2
    obtain ⟨p, xs, rfl, hp, rp⟩ := px.list
    obtain ⟨v, hv, rv⟩ := atI_rep rp h1
    cases ry
    exact .inl ⟨p, xs, _, v, rfl, rfl, hp, hv, k _ ι H (.refl ι H) S rv⟩
  · obtain ⟨d1, h1, h2⟩ := Option.map_eq_some_iff.mp e
    cases h2
    obtain ⟨p, xs, rfl, hp, rp⟩ := px.tup
    obtain ⟨v, hv, rv⟩ := atI_rep rp h1
    cases ry
    exact .inr ⟨p, xs, _, v, rfl, rfl, hp.sq, hv, k _ ι H (.refl ι H) S rv⟩
  · cases e
/-- xs[lo:hi] -/
def cutD (xs : List D) (lo hi : Option Int) : List D := (xs.drop (HT.sIx xs.length 0 lo)).take (HT.sIx xs.length xs.length hi - HT.sIx xs.length 0 lo)
theorem cut_rep {B : Kx} {ι : Ix} {H : Hp} {vs : List V} {ds : List D} (r : Reps B ι H vs ds) (lo hi : Option Int) : Reps B ι H (cutV vs lo hi) (cutD ds lo hi) := by
  unfold cutV cutD
  rw [r.length]
  exact (r.drop _).take _
def gSl (lo hi : Option Int) : D → M D := fun a μ => match pk a μ with
  | .list xs => some (.list (cutD xs lo hi), μ)
  | .tuple xs => some (.tuple (cutD xs lo hi), μ)
  | _ => none
abbrev DenO := Env → M (Option Int)
def dO (B : Kx) (f : DenO) : TO := fun τ H Q => ∃ ι σ μ b μ', Rel B ι σ μ τ H ∧ f σ μ = some (b, μ') ∧ ∀ ι' H', Fra ι ι' H H' → Rel B ι' σ μ' τ H' → Q b H'
def oNo : DenO := fun _ μ => some (none, μ)
def oPart (f : Den) : DenO := fun σ μ => (f σ μ).bind fun p => match p.1 with
  | .int i => some (some i, p.2)
  | _ => none
theorem po_no : PO X none (dO (bx X) oNo) := ⟨fun pins s τ H Q I h => po_none.run pins s τ H Q I (by
  obtain ⟨ι, σ, μ, d, μ', R, e, k⟩ := h
  cases e
  exact k ι H (.refl ι H) R)⟩
theorem po_part {a : Expr} {fa : Den} (ha : PE X a (dE (bx X) fa)) : PO X (some a) (dO (bx X) (oPart fa)) := ⟨fun pins s τ H Q I h => (po_some ha).run pins s τ H Q I (by
  obtain ⟨ι, σ, μ, d, μ', R, e, k⟩ := h
  obtain ⟨⟨d1, μ1⟩, e1, e⟩ := bind_some e
  refine ⟨ι, σ, μ, d1, μ1, R, e1, fun x ι1 H1 F1 R1 r1 => ?_⟩
  dsimp only at e
  split at e
  · cases e
    cases r1
    exact ⟨_, rfl, k ι1 H1 F1 R1⟩
  · cases e)⟩
def dSl (f : Den) (lo hi : DenO) : Den := fun σ μ => (f σ μ).bind fun p => (lo σ p.2).bind fun l => (hi σ l.2).bind fun h => gSl l.1 h.1 p.1 h.2
theorem s_sl : L2.SlR X fun x lo hi H Q => v1 (bx X) (gSl lo hi) x H Q := (sl_list.or sl_tupA).to fun x lo hi H Q h => by
  obtain ⟨ι, μ, dx, d, μ', S, rx, e, k⟩ := h
  have px := pk_ok S rx
  unfold gSl at e
  generalize Dn.pk dx μ = a at px e
  split at e
  · cases e
    obtain ⟨p, xs, rfl, hp, rp⟩ := px.list
    exact .inl ⟨p, xs, rfl, hp, end_lst S (cut_rep rp lo hi) k⟩
  · cases e
    obtain ⟨p, xs, rfl, hp, rp⟩ := px.tup
    refine .inr ⟨p, xs, rfl, hp.sq, fun z => ?_, fun _ => end_tup S (cut_rep rp lo hi) k⟩
    refine k _ ι H (.refl ι H) S (.tup hp ?_)
    have q := cut_rep rp lo hi
    unfold cutV at q
    rw [z.1, z.2, Nat.sub_zero, List.drop_zero, List.take_length] at q
    exact q
  · cases e
theorem e_sl {a : Expr} {fa : Den} {lo hi : Option Expr} {flo fhi : DenO} {p2 pos : Pos} (ha : PE X a (dE (bx X) fa)) (hl : PO X lo (dO (bx X) flo)) (hh : PO X hi (dO (bx X) fhi)) :
    PE X (.Subscript a (.Slice lo hi none p2) pos) (dE (bx X) (dSl fa flo fhi)) := (pe_slice s_sl ha hl hh).to fun τ H Q h => by
  obtain ⟨ι, σ, μ, d, μ', R, e, k⟩ := h
  obtain ⟨⟨d1, μ1⟩, e1, e⟩ := bind_some e
  obtain ⟨⟨l, μ2⟩, e2, e⟩ := bind_some e
  obtain ⟨⟨u, μ3⟩, e3, e⟩ := bind_some e
  refine ⟨ι, σ, μ, d1, μ1, R, e1, fun x ι1 H1 F1 R1 r1 => ⟨ι1, σ, μ1, l, μ2, R1, e2, fun ι2 H2 F2 R2 => ⟨ι2, σ, μ2, u, μ3, R2, e3, fun ι3 H3 F3 R3 => ?_⟩⟩⟩
  exact ⟨ι3, μ3, d1, d, μ', R3.sr, (r1.mono F2).mono F3, e, fun v ι4 H4 F4 S4 r4 => k v ι4 H4 (((F1.trans F2).trans F3).trans F4) (R3.mono F4 S4) r4⟩
end

/-! ### argument lists, displays, calls -/
section
variable {X : Cx} {e : Expr} {es : List Expr} {f : Den} {r : DenL} {pos : Pos}
theorem a_nil : PA X [] (dA (bx X) dNil) := pa_nil.to fun τ H Q h => by
  obtain ⟨ι, σ, μ, d, μ', R, e, k⟩ := h
  cases e
  exact k _ ι H (.refl ι H) R .nil
theorem a_cons (ha : PE X e (dE (bx X) f)) (hr : PA X es (dA (bx X) r)) (hs : starEach (e :: es) X.env = (false, eval e X.env) :: starEach es X.env := by rfl) : PA X (e :: es) (dA (bx X) (dCons f r)) :=
  (pa_cons ha hr hs).to fun τ H Q h => by
    obtain ⟨ι, σ, μ, d, μ', R, e, k⟩ := h
    obtain ⟨⟨d1, μ1⟩, e1, e⟩ := bind_some e
    obtain ⟨⟨d2, μ2⟩, e2, e⟩ := bind_some e
    cases e
    exact ⟨ι, σ, μ, d1, μ1, R, e1, fun x ι1 H1 F1 R1 r1 => ⟨ι1, σ, μ1, d2, _, R1, e2, fun xs ι2 H2 F2 R2 r2 => k _ ι2 H2 (F1.trans F2) R2 (.cons (r1.mono F2) r2)⟩⟩
theorem goF {B : Kx} {g : List D → M D} {τ : L2.St} {H : Hp} {Q : VK} (h : dE B (dF g r) τ H Q) : dA B r τ H fun xs H1 => vA B g xs H1 Q := by
  obtain ⟨ι, σ, μ, d, μ', R, e, k⟩ := h
  obtain ⟨⟨ds, μ1⟩, e1, e⟩ := bind_some e
  refine ⟨ι, σ, μ, ds, μ1, R, e1, fun xs ι1 H1 F1 R1 r1 => ?_⟩
  exact ⟨ι1, μ1, ds, d, μ', R1.sr, r1, e, fun v ι3 H3 F3 S3 r3 => k v ι3 H3 (F1.trans F3) (R1.mono F3 S3) r3⟩
/-- (a, b, ..) -/
def gTup : List D → M D := fun ds μ => if ds.length ≤ lim then some (.tuple ds, μ) else none
/-- [a, b, ..] that nobody writes -/
def gLst : List D → M D := fun ds μ => if ds.length ≤ lim then some (.list ds, μ) else none
/-- [a, b, ..] in the store -/
def gNew : List D → M D := fun ds μ => if ds.length ≤ lim then some (rf μ.length, μ ++ [.lst ds]) else none
theorem e_tup {x1} (h : PA X es (dA (bx X) r)) : PE X (.Tuple es x1 pos) (dE (bx X) (dF gTup r)) := (pe_tup h).to fun τ H Q h => by
  obtain ⟨ι, σ, μ, ds, μ', R, e, k⟩ := goF h
  refine ⟨ι, σ, μ, ds, μ', R, e, fun xs ι1 H1 F1 R1 r1 => ?_⟩
  obtain ⟨ι2, μ2, ds2, d, μ3, S, r2, e2, k2⟩ := k xs ι1 H1 F1 R1 r1
  unfold gTup at e2
  split at e2
  · rename_i hl
    cases e2
    exact ⟨by rw [r2.length]; exact lim_sz hl, end_tup S r2 k2⟩
  · cases e2
theorem e_lst (h : PA X es (dA (bx X) r)) : PE X (.List es pos) (dE (bx X) (dF gLst r)) := (pe_lst h).to fun τ H Q h => by
  obtain ⟨ι, σ, μ, ds, μ', R, e, k⟩ := goF h
  refine ⟨ι, σ, μ, ds, μ', R, e, fun xs ι1 H1 F1 R1 r1 => ?_⟩
  obtain ⟨ι2, μ2, ds2, d, μ3, S, r2, e2, k2⟩ := k xs ι1 H1 F1 R1 r1
  unfold gLst at e2
  split at e2
  · rename_i hl
    cases e2
    exact ⟨by rw [r2.length]; exact lim_sz hl, end_lst S r2 k2⟩
  · cases e2
theorem end_new {B : Kx} {ι : Ix} {μ : Sto} {H : Hp} {Q : VK} {xs : List V} {ds : List D} (S : SR B ι μ H) (r : Reps B ι H xs ds)
    (k : ∀ v ι' H', Fra ι ι' H H' → SR B ι' (μ ++ [.lst ds]) H' → Rep B ι' H' v (rf μ.length) → Q v H') : ∀ p, H p = none → Q (.ref p) (upd H p (.lst xs)) := fun p hp => by
  refine k _ (ι.push p) _ (fra_push S hp) (S.push hp ⟨xs, upd_same, r.mono (fra_push S hp)⟩) (.rf ?_)
  show (ι.a ++ [p])[μ.length]? = some p
  rw [← S.len, List.getElem?_append_right (Nat.le_refl _), Nat.sub_self]
  rfl
theorem e_new (h : PA X es (dA (bx X) r)) : PE X (.List es pos) (dE (bx X) (dF gNew r)) := (pe_lst h).to fun τ H Q h => by
  obtain ⟨ι, σ, μ, ds, μ', R, e, k⟩ := goF h
  refine ⟨ι, σ, μ, ds, μ', R, e, fun xs ι1 H1 F1 R1 r1 => ?_⟩
  obtain ⟨ι2, μ2, ds2, d, μ3, S, r2, e2, k2⟩ := k xs ι1 H1 F1 R1 r1
  unfold gNew at e2
  split at e2
  · rename_i hl
    cases e2
    exact ⟨by rw [r2.length]; exact lim_sz hl, end_new S r2 k2⟩
  · cases e2
theorem e_callB {id : String} {x : Str} {p : Pos} {g : List D → M D} (hc : CallR X (.builtin id) (vA (bx X) g)) (hg : Gl X x) (hm : X.mg x = none) (hv : bootBuiltins x = some (.builtin id)) (ha : PA X (e :: es) (dA (bx X) r)) (hn : x ≠ "__name__" := by decide) (hdb : (x == ("__debug__" : Str)) = false := by decide)
    (he : starEach (e :: es) X.env = (false, eval e X.env) :: starEach es X.env := by rfl) (hpl : (backTo pos (starEach es X.env)).any (·.1) = false := by rfl) : PE X (.Call (.Name x p) (e :: es) [] pos) (dE (bx X) (dF g r)) :=
  (pe_callB hc hg hm hv ha hn hdb he hpl).to fun _ _ _ h => goF h
theorem e_callTy {T : String} {x : Str} {p : Pos} {g : List D → M D} (hc : CallR X (.type T) (vA (bx X) g)) (hg : Gl X x) (hm : X.mg x = none) (hv : bootBuiltins x = some (.type T)) (ha : PA X (e :: es) (dA (bx X) r)) (hn : x ≠ "__name__" := by decide) (hdb : (x == ("__debug__" : Str)) = false := by decide)
    (he : starEach (e :: es) X.env = (false, eval e X.env) :: starEach es X.env := by rfl) (hpl : (backTo pos (starEach es X.env)).any (·.1) = false := by rfl) : PE X (.Call (.Name x p) (e :: es) [] pos) (dE (bx X) (dF g r)) :=
  (pe_callTy hc hg hm hv ha hn hdb he hpl).to fun _ _ _ h => goF h
end
end Dn
end

section
set_option maxRecDepth 100000
set_option maxHeartbeats 4000000
/-! Dn4: statements, loops, defs -/
namespace Dn
open PySem PySem.Spec PyProof.Rows L2

inductive Fl where
  | nx (σ : Env)
  | rt (d : D)
  | bk (σ : Env)
  | ct (σ : Env)
abbrev SDen := Env → M Fl
def endS (B : Kx) (ι : Ix) (H : Hp) (μ : Sto) (E : Ends) : Fl → Prop
  | .nx σ => ∀ τ, Rel B ι σ μ τ H → E.nx τ H
  | .rt d => ∀ v, SR B ι μ H → Rep B ι H v d → E.rt v H
  | .bk σ => ∀ τ, Rel B ι σ μ τ H → E.bk τ H
  | .ct σ => ∀ τ, Rel B ι σ μ τ H → E.ct τ H
def dS (B : Kx) (f : SDen) : TS := fun E τ H => ∃ ι σ μ fl μ', Rel B ι σ μ τ H ∧ f σ μ = some (fl, μ') ∧ ∀ ι' H', Fra ι ι' H H' → endS B ι' H' μ' E fl

def sSkip : SDen := fun σ μ => some (.nx σ, μ)
def sSeq (f g : SDen) : SDen := fun σ μ => (f σ μ).bind fun p => match p.1 with
  | .nx σ' => g σ' p.2
  | fl => some (fl, p.2)
def sSet (i : Nat) (f : Den) : SDen := fun σ μ => (f σ μ).bind fun p => some (.nx (σ.set i (some p.1)), p.2)
def sDrop (f : Den) : SDen := fun σ μ => (f σ μ).bind fun p => some (.nx σ, p.2)
def sRet (f : Den) : SDen := fun σ μ => (f σ μ).bind fun p => some (.rt p.1, p.2)
def sIf (c : DenB) (f g : SDen) : SDen := fun σ μ => (c σ μ).bind fun p => if p.1 = true then f σ p.2 else g σ p.2
def sCont : SDen := fun σ μ => some (.ct σ, μ)
def sBrk : SDen := fun σ μ => some (.bk σ, μ)
section
variable {B : Kx} {ι ι1 : Ix} {σ : Env} {μ μ1 : Sto} {τ : L2.St} {H H1 : Hp} {E : Ends} {fl : Fl}
theorem endS.after (F : Fra ι ι1 H H1) (k : ∀ ι' H', Fra ι ι' H H' → endS B ι' H' μ E fl) : ∀ ι' H', Fra ι1 ι' H1 H' → endS B ι' H' μ E fl := fun ι' H' G => k ι' H' (F.trans G)
end
section
variable {X : Cx} {pos : Pos} {st : Stmt} {rest : List Stmt} {f g : SDen} {e : Expr} {fe : Den}
theorem ss_nil : PSs X [] (dS (bx X) sSkip) := pss_nil.to fun E τ H h => by
  obtain ⟨ι, σ, μ, fl, μ', R, e, k⟩ := h
  cases e
  exact k ι H (.refl ι H) τ R
theorem s_pass : PS X (.Pass pos) (dS (bx X) sSkip) := ps_pass.to fun E τ H h => by
  obtain ⟨ι, σ, μ, fl, μ', R, e, k⟩ := h
  cases e
  exact k ι H (.refl ι H) τ R
theorem s_cont : PS X (.Continue pos) (dS (bx X) sCont) := ps_continue.to fun E τ H h => by
  obtain ⟨ι, σ, μ, fl, μ', R, e, k⟩ := h
  cases e
  exact k ι H (.refl ι H) τ R
theorem s_brk : PS X (.Break pos) (dS (bx X) sBrk) := ps_break.to fun E τ H h => by
  obtain ⟨ι, σ, μ, fl, μ', R, e, k⟩ := h
  cases e
  exact k ι H (.refl ι H) τ R
theorem ss_cons (h1 : PS X st (dS (bx X) f)) (h2 : PSs X rest (dS (bx X) g)) : PSs X (st :: rest) (dS (bx X) (sSeq f g)) := (pss_cons h1 h2).to fun E τ H h => by
  obtain ⟨ι, σ, μ, fl, μ', R, e, k⟩ := h
  obtain ⟨⟨f1, μ1⟩, e1, e⟩ := bind_some e
  refine ⟨ι, σ, μ, f1, μ1, R, e1, fun ι1 H1 F => ?_⟩
  cases f1 with
  | nx σ1 => exact fun τ1 R1 => ⟨ι1, σ1, μ1, fl, μ', R1, e, endS.after F k⟩
  | rt d => cases e; exact k ι1 H1 F
  | bk σ1 => cases e; exact k ι1 H1 F
  | ct σ1 => cases e; exact k ι1 H1 F
theorem ss_one (h1 : PS X st (dS (bx X) f)) : PSs X [st] (dS (bx X) f) := pss_one h1
theorem goSet {B : Kx} {i : Nat} {E : Ends} {τ : L2.St} {H : Hp} (h : dS B (sSet i fe) E τ H) : tAsg (dE B fe) (gName i) E τ H := by
  obtain ⟨ι, σ, μ, fl, μ', R, e, k⟩ := h
  obtain ⟨⟨d, μ1⟩, e1, e⟩ := bind_some e
  cases e
  exact ⟨ι, σ, μ, d, μ1, R, e1, fun v ι1 H1 F R1 r => k ι1 H1 F _ (R1.set i r)⟩
theorem s_set {i : Nat} {x : Str} {pos' : Pos} (hN : X.N.Nodup) (hi : X.N[i]? = some x) (hx : Loc X.env.scope x) (he : PE X e (dE (bx X) fe)) (hs : swapsWith e (some (.Name x pos')) pos.line X.env = pure false := by rfl) (hf : X.fn x = true ∨ X.env.scope.names.lookup x = some .local := by first | exact .inl rfl | exact .inr rfl | assumption) :
    PS X (.Assign [.Name x pos'] e pos) (dS (bx X) (sSet i fe)) := (ps_set hN hi hx he hs hf).to fun _ _ _ h => goSet h
theorem s_expr (he : PE X e (dE (bx X) fe)) (hs : swapsWith e none pos.line X.env = pure false := by rfl) : PS X (.Expr e pos) (dS (bx X) (sDrop fe)) := (ps_expr he hs).to fun E τ H h => by
  obtain ⟨ι, σ, μ, fl, μ', R, e, k⟩ := h
  obtain ⟨⟨d, μ1⟩, e1, e⟩ := bind_some e
  cases e
  exact ⟨ι, σ, μ, d, μ1, R, e1, fun v ι1 H1 F R1 r => k ι1 H1 F _ R1⟩
theorem s_ret (he : PE X e (dE (bx X) fe)) : PS X (.Return (some e) pos) (dS (bx X) (sRet fe)) := (ps_ret he).to fun E τ H h => by
  obtain ⟨ι, σ, μ, fl, μ', R, e, k⟩ := h
  obtain ⟨⟨d, μ1⟩, e1, e⟩ := bind_some e
  cases e
  exact ⟨ι, σ, μ, d, μ1, R, e1, fun v ι1 H1 F R1 r => k ι1 H1 F v R1.sr r⟩
theorem s_retN : PS X (.Return none pos) (dS (bx X) (sRet (dC .none))) := ps_retN.to fun E τ H h => by
  obtain ⟨ι, σ, μ, fl, μ', R, e, k⟩ := h
  cases e
  exact k ι H (.refl ι H) _ R.sr .non
theorem s_if {c : Expr} {a b : List Stmt} {fc : DenB} (hc : PT X c (dT (bx X) fc)) (ha : PSs X a (dS (bx X) f)) (hb : PSs X b (dS (bx X) g)) : PS X (.If c a b pos) (dS (bx X) (sIf fc f g)) := (ps_if hc ha hb).to fun E τ H h => by
  obtain ⟨ι, σ, μ, fl, μ', R, e, k⟩ := h
  obtain ⟨⟨d, μ1⟩, e1, e⟩ := bind_some e
  refine ⟨ι, σ, μ, d, μ1, R, e1, fun ι1 H1 F R1 => ?_⟩
  cases d with
  | true => exact ⟨ι1, σ, μ1, fl, μ', R1, e, endS.after F k⟩
  | false => exact ⟨ι1, σ, μ1, fl, μ', R1, e, endS.after F k⟩
end

/-! ### targets -/
abbrev Tg := D → Env → Option Env
abbrev Tgs := List D → Env → Option Env
/-- g stores; ws: the places that it may write -/
def dG (B : Kx) (ws : List Nat) (g : Tg) : TG := fun v τ H Q => ∃ ι σ μ d σ', Rel B ι σ μ τ H ∧ Rep B ι H v d ∧ g d σ = some σ' ∧
  ∀ τ', Rel B ι σ' μ τ' H → τ'.length = τ.length → (∀ i, i ∉ ws → τ'[i]? = τ[i]?) → Q τ' H
def dGs (B : Kx) (ws : List Nat) (g : Tgs) : TGs := fun vs τ H Q => ∃ ι σ μ ds σ', Rel B ι σ μ τ H ∧ Reps B ι H vs ds ∧ g ds σ = some σ' ∧
  ∀ τ', Rel B ι σ' μ τ' H → τ'.length = τ.length → (∀ i, i ∉ ws → τ'[i]? = τ[i]?) → Q τ' H
def tName (i : Nat) : Tg := fun d σ => some (σ.set i (some d))
def tNone : Tgs := fun ds σ => match ds with
  | [] => some σ
  | _ => none
def tMore (g : Tg) (r : Tgs) : Tgs := fun ds σ => match ds with
  | [] => none
  | d :: ds => (g d σ).bind fun σ1 => r ds σ1
def tTupD (n : Nat) (r : Tgs) : Tg := fun d σ => match d with
  | .tuple ds => if ds.length = n then r ds σ else none
  | _ => none
section
variable {X : Cx} {pos : Pos}
theorem g_name {i : Nat} {x : Str} (hN : X.N.Nodup) (hi : X.N[i]? = some x) (hx : Loc X.env.scope x) (hf : X.fn x = true ∨ X.env.scope.names.lookup x = some .local := by first | exact .inl rfl | exact .inr rfl | assumption) : PG X (.Name x pos) (dG (bx X) [i] (tName i)) :=
  ⟨fun pins s τ H v u Q I r h => (pg_name hN hi hx hf).run pins s τ H v u Q I r (by
    obtain ⟨ι, σ, μ, d, σ', R, q, e, k⟩ := h
    cases e
    exact k _ (R.set i q) (List.length_set ..) fun j hj => List.getElem?_set_ne (fun e => hj (by rw [e]; exact List.mem_cons_self)))⟩
theorem gs_nil : PGs X [] (dGs (bx X) [] tNone) := ⟨fun pins s τ H vs us Q I r h => pgs_nil.run pins s τ H vs us Q I r (by
  obtain ⟨ι, σ, μ, ds, σ', R, q, e, k⟩ := h
  unfold tNone at e
  split at e
  · cases e
    cases q
    exact ⟨rfl, k _ R rfl fun _ _ => rfl⟩
  · cases e)⟩
theorem gs_cons {e : Expr} {es : List Expr} {g : Tg} {gs : Tgs} {ws us : List Nat} (h1 : PG X e (dG (bx X) ws g)) (h2 : PGs X es (dGs (bx X) us gs)) (hs : (assignEach (e :: es) X.env).map (·.2) = assign e X.env :: (assignEach es X.env).map (·.2) := by rfl) :
    PGs X (e :: es) (dGs (bx X) (ws ++ us) (tMore g gs)) := ⟨fun pins s τ H vs us' Q I r h => (pgs_cons h1 h2 hs).run pins s τ H vs us' Q I r (by
  obtain ⟨ι, σ, μ, ds, σ', R, q, e, k⟩ := h
  unfold tMore at e
  split at e
  · cases e
  · obtain ⟨σ1, e1, e2⟩ := bind_some e
    cases q with
    | cons q1 q2 => exact ⟨_, _, rfl, ι, σ, μ, _, σ1, R, q1, e1, fun τ1 R1 l1 n1 => ⟨ι, σ1, μ, _, σ', R1, q2, e2, fun τ2 R2 l2 n2 => k τ2 R2 (l2.trans l1) fun j hj =>
        (n2 j fun z => hj (List.mem_append_right _ z)).trans (n1 j fun z => hj (List.mem_append_left _ z))⟩⟩)⟩
theorem g_tup {es : List Expr} {j : Nat} {gs : Tgs} {ws : List Nat} {n : Nat} (hc : X.calm = true) (hh : PGs X es (dGs (bx X) ws gs))
    (hn : (assignEach es X.env).length = n := by rfl) (hst : (assignEach es X.env).findIdx? (·.1) = none := by rfl) : PG X (.Tuple es j pos) (dG (bx X) ws (tTupD n gs)) :=
  ⟨fun pins s τ H v u Q I r h => (pg_tup hc hh hn hst).run pins s τ H v u Q I r (by
    obtain ⟨ι, σ, μ, d, σ', R, q, e, k⟩ := h
    unfold tTupD at e
    split at e
    · split at e
      · rename_i hl
        cases q with
        | tup ht hr => exact ⟨_, _, rfl, ht.sq, by rw [hr.length]; exact hl, ι, σ, μ, _, σ', R, hr, e, k⟩
      · cases e
    · cases e)⟩
def sAsg (g : Tg) (f : Den) : SDen := fun σ μ => (f σ μ).bind fun p => (g p.1 σ).bind fun σ' => some (.nx σ', p.2)
theorem s_asg {tg e : Expr} {fe : Den} {ws : List Nat} {g : Tg} (he : PE X e (dE (bx X) fe)) (hg : PG X tg (dG (bx X) ws g)) (hs : swapsWithSole [tg] e pos.line X.env = pure false := by rfl) (hw : swappedStores [tg] e X.env = pure none := by rfl)
    (h1 : (assignEach [tg] X.env).map (·.2) = [assign tg X.env] := by rfl) : PS X (.Assign [tg] e pos) (dS (bx X) (sAsg g fe)) := (ps_asg he hg hs hw h1).to fun E τ H h => by
  obtain ⟨ι, σ, μ, fl, μ', R, e, k⟩ := h
  obtain ⟨⟨d, μ1⟩, e1, e⟩ := bind_some e
  obtain ⟨σ1, e2, e⟩ := bind_some e
  cases e
  exact ⟨ι, σ, μ, d, μ1, R, e1, fun v ι1 H1 F R1 r => ⟨ι1, σ, μ1, d, σ1, R1, r, e2, fun τ2 R2 _ _ => k ι1 H1 F τ2 R2⟩⟩
end

/-! ### what a loop walks: the items, and the store's list that must stay as it is -/
structure Src where
  xs : List D
  wt : Option Nat
def Src.ok (s : Src) (μ : Sto) : Prop := match s.wt with
  | none => True
  | some n => μ[n]? = some (.lst s.xs)
mutual
/-- the same data -/
def eqD : D → D → Bool
  | .none, e => match e with | .none => true | _ => false
  | .bool a, e => match e with | .bool b => a == b | _ => false
  | .int a, e => match e with | .int b => a == b | _ => false
  | .str a, e => match e with | .str b => a == b | _ => false
  | .list xs, e => match e with | .list ys => eqDs xs ys | _ => false
  | .tuple xs, e => match e with | .tuple ys => eqDs xs ys | _ => false
  | .dict xs, e => match e with | .dict ys => eqDk xs ys | _ => false
def eqDs : List D → List D → Bool
  | [], es => match es with | [] => true | _ => false
  | d :: ds, es => match es with | e :: es => eqD d e && eqDs ds es | _ => false
def eqDk : List (D × D) → List (D × D) → Bool
  | [], es => match es with | [] => true | _ => false
  | (a, b) :: ds, es => match es with | (c, d) :: es => eqD a c && eqD b d && eqDk ds es | _ => false
end
mutual
theorem eqD_ok : ∀ {d e : D}, eqD d e = true → d = e
  | .none, e, h => by unfold eqD at h; cases e <;> first | rfl | cases h
  | .bool a, e, h => by unfold eqD at h; cases e <;> first | exact congrArg _ (beq_iff_eq.mp h) | cases h
  | .int a, e, h => by unfold eqD at h; cases e <;> first | exact congrArg _ (beq_iff_eq.mp h) | cases h
  | .str a, e, h => by unfold eqD at h; cases e <;> first | exact congrArg _ (beq_iff_eq.mp h) | cases h
  | .list a, e, h => by unfold eqD at h; cases e <;> first | exact congrArg _ (eqDs_ok h) | cases h
  | .tuple a, e, h => by unfold eqD at h; cases e <;> first | exact congrArg _ (eqDs_ok h) | cases h
  | .dict a, e, h => by unfold eqD at h; cases e <;> first | exact congrArg _ (eqDk_ok h) | cases h
theorem eqDs_ok : ∀ {d e : List D}, eqDs d e = true → d = e
  | [], e, h => by unfold eqDs at h; cases e <;> first | rfl | cases h
  | d :: ds, e, h => by
    unfold eqDs at h
    cases e with
    | nil => cases h
    | cons e es =>
      obtain ⟨h1, h2⟩ := Bool.and_eq_true_iff.mp h
      rw [eqD_ok h1, eqDs_ok h2]
theorem eqDk_ok : ∀ {d e : List (D × D)}, eqDk d e = true → d = e
  | [], e, h => by unfold eqDk at h; cases e <;> first | rfl | cases h
  | (a, b) :: ds, e, h => by
    unfold eqDk at h
    cases e with
    | nil => cases h
    | cons e es =>
      obtain ⟨c, d⟩ := e
      obtain ⟨h1, h2⟩ := Bool.and_eq_true_iff.mp h
      obtain ⟨h1, h3⟩ := Bool.and_eq_true_iff.mp h1
      rw [eqD_ok h1, eqD_ok h3, eqDk_ok h2]
end
mutual
theorem eqD_refl : ∀ d : D, eqD d d = true
  | .none => by unfold eqD; rfl
  | .bool a => by unfold eqD; exact beq_self_eq_true a
  | .int a => by unfold eqD; exact beq_self_eq_true a
  | .str a => by unfold eqD; exact beq_self_eq_true a
  | .list a => by unfold eqD; exact eqDs_refl a
  | .tuple a => by unfold eqD; exact eqDs_refl a
  | .dict a => by unfold eqD; exact eqDk_refl a
theorem eqDs_refl : ∀ d : List D, eqDs d d = true
  | [] => by unfold eqDs; rfl
  | d :: ds => by unfold eqDs; exact Bool.and_eq_true_iff.mpr ⟨eqD_refl d, eqDs_refl ds⟩
theorem eqDk_refl : ∀ d : List (D × D), eqDk d d = true
  | [] => by unfold eqDk; rfl
  | (a, b) :: ds => by unfold eqDk; exact Bool.and_eq_true_iff.mpr ⟨Bool.and_eq_true_iff.mpr ⟨eqD_refl a, eqD_refl b⟩, eqDk_refl ds⟩
end
def Src.okB (s : Src) (μ : Sto) : Bool := match s.wt with
  | none => true
  | some n => match μ[n]? with
    | some (.lst xs) => eqDs xs s.xs
    | _ => false
theorem Src.ok_of {s : Src} {μ : Sto} (h : s.okB μ = true) : s.ok μ := by
  unfold Src.okB at h
  unfold Src.ok
  split at h
  · trivial
  · split at h
    · rename_i xs hx
      rw [hx, eqDs_ok h]
    · cases h
theorem Src.okB_of {s : Src} {μ : Sto} (h : s.ok μ) : s.okB μ = true := by
  unfold Src.okB
  unfold Src.ok at h
  cases e : s.wt with
  | none => rfl
  | some n =>
    rw [e] at h
    dsimp only at h ⊢
    rw [h]
    exact eqDs_refl _
def ItOk (B : Kx) (ι : Ix) (H : Hp) (J : It) (s : Src) : Prop := ∀ ι' zs μ' H', Fra ι ι' H H' → (∀ b ∈ zs, H b = none) → SR B (ι'.hides zs) μ' H' → s.ok μ' → ∀ i,
  (∀ d, s.xs[i]? = some d → J.go i H' ∧ ∀ x H'', J.yld i H' x H'' → Same H' H'' ∧ Rep B (ι'.hides zs) H'' x d) ∧ (s.xs.length = i → J.stop i H')
abbrev DenI := Env → M Src
def dI (B : Kx) (f : DenI) : TI := fun τ H R => ∃ ι σ μ s μ', Rel B ι σ μ τ H ∧ f σ μ = some (s, μ') ∧ ∀ J ι' H', Fra ι ι' H H' → Rel B ι' σ μ' τ H' → ItOk B ι' H' J s → R J H'
def iSeq (f : Den) : DenI := fun σ μ => (f σ μ).bind fun p => match pk p.1 p.2 with
  | .list xs => some (⟨xs, asRf p.1⟩, p.2)
  | .tuple xs => some (⟨xs, none⟩, p.2)
  | _ => none
/-- what it comes to, of one that stands there -/
theorem Rep.lsq {B : Kx} {ι ι' : Ix} {μ μ' : Sto} {H H' : Hp} {v : V} {d : D} {xs : List D} (S : SR B ι μ H) (r : Rep B ι H v d) (e : pk d μ = .list xs) (F : Cv ι ι' H H') (S' : SR B ι' μ' H') (w : (⟨xs, asRf d⟩ : Src).ok μ') :
    ∃ a vs, v = .ref a ∧ SqL B.K H' a vs ∧ Reps B ι' H' vs xs := by
  unfold pk at e
  split at e
  · rename_i hy
    cases e
    have e2 := asFz_some hy
    subst e2
    have q := pk_ok S' (r.cv F)
    obtain ⟨a, vs, h1, h2, h3⟩ := (show Pk B ι' H' v (.list xs) from q).list
    exact ⟨a, vs, h1, h2, h3⟩
  · unfold px at e
    split at e
    · rename_i n hn
      unfold Src.ok at w
      dsimp only at w
      rw [hn] at w
      dsimp only at w
      have e2 := asRf_some hn
      subst e2
      obtain ⟨a, h1, h2, h3⟩ := S'.at (r.cv F) w
      obtain ⟨vs, h4, h5⟩ := h3
      exact ⟨a, vs, h1, sq_of h4, h5⟩
    · subst e
      obtain ⟨a, vs, h1, h2, h3⟩ := (Rep.px0 (r.cv F)).pk.list
      exact ⟨a, vs, h1, h2, h3⟩
section
variable {X : Cx} {tg l : Expr} {fl : Den}
theorem i_seq (hl : PE X l (dE (bx X) fl)) : PI X tg l (dI (bx X) (iSeq fl)) := ⟨fun pins s τ H R I h => by
  obtain ⟨ι, σ, μ, sc, μ', Rl, e, k⟩ := h
  obtain ⟨⟨d, μ1⟩, e1, e⟩ := bind_some e
  dsimp only at e
  split at e
  · rename_i xs hx
    cases e
    refine (pi_list hl).run pins s τ H R I ⟨ι, σ, μ, d, _, Rl, e1, fun v ι1 H1 F1 R1 r1 => ?_⟩
    obtain ⟨a, vs, rfl, hs, hr⟩ := (hx ▸ pk_ok R1.sr r1 : Pk _ _ _ _ (.list xs)).list
    refine ⟨a, rfl, ⟨vs, hs⟩, k _ ι1 H1 F1 R1 fun ι2 zs μ2 H2 F2 hz S2 w i => ?_⟩
    obtain ⟨a', vs', e2, hs2, hr2⟩ := r1.lsq R1.sr hx (cv_of F2 hz) S2 w
    cases e2
    refine ⟨fun d' hd => ?_, fun hi => ⟨vs', hs2, by rw [hr2.length]; exact Nat.le_of_eq hi⟩⟩
    obtain ⟨v, hv, rv⟩ := hr2.get hd
    refine ⟨⟨vs', v, hs2, hv⟩, fun x H'' y => ?_⟩
    obtain ⟨rfl, y⟩ := y
    have := y vs' hs2
    rw [hv] at this
    cases this
    exact ⟨Same.refl _, rv⟩
  · rename_i xs hx
    cases e
    refine (pi_tup hl).run pins s τ H R I ⟨ι, σ, μ, d, _, Rl, e1, fun v ι1 H1 F1 R1 r1 => ?_⟩
    obtain ⟨a, vs, rfl, hs, hr⟩ := (hx ▸ pk_ok R1.sr r1 : Pk _ _ _ _ (.tuple xs)).tup
    refine ⟨a, rfl, ⟨vs, hs.sq⟩, k _ ι1 H1 F1 R1 fun ι2 zs μ2 H2 F2 hz S2 w i => ?_⟩
    have hs2 := (hs.mono F2).sq
    have hr2 := hr.cv (cv_of F2 hz)
    refine ⟨fun d' hd => ?_, fun hi => ⟨vs, hs2, by rw [hr2.length]; exact Nat.le_of_eq hi⟩⟩
    obtain ⟨v, hv, rv⟩ := hr2.get hd
    refine ⟨⟨vs, v, hs2, hv⟩, fun x H'' y => ?_⟩
    obtain ⟨rfl, y⟩ := y
    have := y vs hs2
    rw [hv] at this
    cases this
    exact ⟨Same.refl _, rv⟩
  · cases e⟩
/-- upD from lo on -/
def upD (lo : Int) (n : Nat) : List D := (List.range n).map fun i => .int (lo + (i : Nat))
theorem upD_get {lo : Int} {n i : Nat} {d : D} (h : (upD lo n)[i]? = some d) : i < n ∧ d = .int (lo + (i : Nat)) := by
  unfold upD at h
  rw [List.getElem?_map] at h
  obtain ⟨j, h1, h2⟩ := Option.map_eq_some_iff.mp h
  obtain ⟨h3, h4⟩ := List.getElem?_eq_some_iff.mp h1
  rw [List.length_range] at h3
  rw [List.getElem_range] at h4
  subst h4
  exact ⟨h3, h2.symm⟩
theorem upD_ok {B : Kx} {ι : Ix} {H : Hp} (lo : Int) (n : Nat) : ItOk B ι H (Itr lo n) ⟨upD lo n, none⟩ := fun ι' zs μ' H' _ _ _ _ i => by
  refine ⟨fun d hd => ?_, fun hi => ?_⟩
  · obtain ⟨h1, rfl⟩ := upD_get hd
    refine ⟨h1, fun x H'' y => ?_⟩
    obtain ⟨rfl, rfl⟩ := y
    exact ⟨Same.refl _, .int _⟩
  · have h2 : (upD lo n).length = n := by unfold upD; rw [List.length_map, List.length_range]
    rw [h2] at hi
    exact Nat.le_of_eq hi
def iRange1 (r : DenL) : DenI := fun σ μ => (r σ μ).bind fun p => match p.1 with
  | [.int j] => if -(2 ^ 62) ≤ j ∧ j < 2 ^ 62 then some (⟨upD 0 j.toNat, none⟩, p.2) else none
  | _ => none
def iRange2 (r : DenL) : DenI := fun σ μ => (r σ μ).bind fun p => match p.1 with
  | [.int i, .int j] => if -(2 ^ 62) ≤ i ∧ i < 2 ^ 62 ∧ -(2 ^ 62) ≤ j ∧ j < 2 ^ 62 then some (⟨upD i (j - i).toNat, none⟩, p.2) else none
  | _ => none
theorem i_range1 {a : Expr} {r : DenL} {p pos : Pos} (hg : Gl X "range") (hm : X.mg "range" = none) (ha : PA X [a] (dA (bx X) r)) (hs : starEach [a] X.env = [(false, eval a X.env)] := by rfl) : PI X tg (.Call (.Name "range" p) [a] [] pos) (dI (bx X) (iRange1 r)) :=
  ⟨fun pins s τ H R I h => (pi_range1 hg hm ha hs).run pins s τ H R I (by
    obtain ⟨ι, σ, μ, sc, μ', Rl, e, k⟩ := h
    obtain ⟨⟨ds, μ1⟩, e1, e⟩ := bind_some e
    refine ⟨ι, σ, μ, ds, μ1, Rl, e1, fun vs ι1 H1 F1 R1 r1 => ?_⟩
    dsimp only at e
    split at e
    · split at e
      · rename_i hj
        cases e
        cases r1 with
        | cons r1 r2 =>
          cases r1
          cases r2
          exact ⟨_, rfl, hj.1, hj.2, k _ ι1 H1 F1 R1 (upD_ok 0 _)⟩
      · cases e
    · cases e)⟩
theorem i_range2 {a b : Expr} {r : DenL} {p pos : Pos} (hg : Gl X "range") (hm : X.mg "range" = none) (ha : PA X [a, b] (dA (bx X) r)) (hs : starEach [a, b] X.env = [(false, eval a X.env), (false, eval b X.env)] := by rfl) (hs2 : starEach [b] X.env = [(false, eval b X.env)] := by rfl) : PI X tg (.Call (.Name "range" p) [a, b] [] pos) (dI (bx X) (iRange2 r)) :=
  ⟨fun pins s τ H R I h => (pi_range2 hg hm ha hs hs2).run pins s τ H R I (by
    obtain ⟨ι, σ, μ, sc, μ', Rl, e, k⟩ := h
    obtain ⟨⟨ds, μ1⟩, e1, e⟩ := bind_some e
    refine ⟨ι, σ, μ, ds, μ1, Rl, e1, fun vs ι1 H1 F1 R1 r1 => ?_⟩
    dsimp only at e
    split at e
    · split at e
      · rename_i hj
        cases e
        cases r1 with
        | cons r1 r2 =>
          cases r1
          cases r2 with
          | cons r2 r3 =>
            cases r2
            cases r3
            exact ⟨_, _, rfl, hj, k _ ι1 H1 F1 R1 (upD_ok _ _)⟩
      · cases e
    · cases e)⟩
end

/-! ### for -/
def sLoop (g : Tg) (b : SDen) (s : Src) : List D → Env → Sto → Option (Fl × Sto)
  | [], σ, μ => if s.okB μ = true then some (.nx σ, μ) else none
  | d :: ds, σ, μ => if s.okB μ = true then (g d σ).bind fun σ1 => (b σ1 μ).bind fun p => match p.1 with
      | .nx σ2 => sLoop g b s ds σ2 p.2
      | .ct σ2 => sLoop g b s ds σ2 p.2
      | .bk σ2 => some (.nx σ2, p.2)
      | .rt d => some (.rt d, p.2)
    else none
def sFor (f : DenI) (g : Tg) (b : SDen) : SDen := fun σ μ => (f σ μ).bind fun p => sLoop g b p.1 p.1.xs σ p.2
theorem Fra.same {B : Kx} {ι ι' : Ix} {μ : Sto} {H H' H'' : Hp} (F : Fra ι ι' H H') (S : SR B ι' μ H') (h : Same H' H'') : Fra ι ι' H H'' := F.trans (fra_same S h)
section
variable {X : Cx} {tg iter : Expr} {body : List Stmt} {f : DenI} {g : Tg} {ws : List Nat} {b : SDen} {pos : Pos}
theorem s_for (hp : PassesOwn (model X.prog X.w) X.A X.env X.xe) (hc : X.calm = true) (hi : PI X tg iter (dI (bx X) f)) (hg : PG X tg (dG (bx X) ws g)) (hb : PSs X body (dS (bx X) b))
    (hs : ∀ x, foldedSetIterable iter X.env x = pure x := by intro _; rfl) : PS X (.For tg iter body [] pos) (dS (bx X) (sFor f g b)) := (ps_for hp hc hi hg hb hs).to fun E τ H h => by
  obtain ⟨ι, σ, μ, fl, μ', R, e, k⟩ := h
  obtain ⟨⟨s, μ1⟩, e1, e⟩ := bind_some e
  refine ⟨ι, σ, μ, s, μ1, R, e1, fun J ι1 H1 F1 R1 it => ?_⟩
  refine ⟨fun i m τ2 H2 => m = s.xs.length - i ∧ i ≤ s.xs.length ∧ ∃ ι2 σ2 μ2, Fra ι1 ι2 H1 H2 ∧ Rel (bx X) ι2 σ2 μ2 τ2 H2 ∧ sLoop g b s (s.xs.drop i) σ2 μ2 = some (fl, μ'),
    ⟨s.xs.length, by simp, Nat.zero_le _, ι1, σ, μ1, .refl _ _, R1, by rw [List.drop_zero]; exact e⟩, ?_⟩
  rintro i m τ2 H2 ⟨rfl, hi, ι2, σ2, μ2, F2, R2, el⟩
  by_cases hlt : i < s.xs.length
  · rw [List.drop_eq_getElem_cons hlt] at el
    unfold sLoop at el
    split at el
    · rename_i hok
      obtain ⟨σ3, e3, el⟩ := bind_some el
      obtain ⟨⟨fl3, μ3⟩, e4, el⟩ := bind_some el
      obtain ⟨hgo, hy⟩ := (it ι2 [] μ2 H2 F2 (fun _ h => nomatch h) R2.sr (Src.ok_of hok) i).1 _ (List.getElem?_eq_getElem hlt)
      refine .inr ⟨hgo, fun τ4 H4 => ∃ ι4 σ4 μ4, Fra ι1 ι4 H1 H4 ∧ Rel (bx X) ι4 σ4 μ4 τ4 H4 ∧ sLoop g b s (s.xs.drop (i + 1)) σ4 μ4 = some (fl, μ'), fun τ4 H4 h4 => ⟨_, by omega, rfl, hlt, h4⟩, fun x H3 y3 => ?_⟩
      obtain ⟨sm, rx⟩ := hy x H3 y3
      have F3 := F2.same R2.sr sm
      have R3 : Rel (bx X) ι2 σ2 μ2 τ2 H3 := R2.mono (fra_same R2.sr sm) (R2.sr.same sm)
      refine ⟨ι2, σ2, μ2, _, σ3, R3, rx, e3, fun τ3 R4 _ _ => ⟨ι2, σ3, μ2, fl3, μ3, R4, e4, fun ι5 H5 F5 => ?_⟩⟩
      have F6 := F3.trans F5
      cases fl3 with
      | nx σ5 => exact fun τ5 R5 => ⟨ι5, σ5, μ3, F6, R5, el⟩
      | ct σ5 => exact fun τ5 R5 => ⟨ι5, σ5, μ3, F6, R5, el⟩
      | bk σ5 => cases el; exact k ι5 H5 (F1.trans F6)
      | rt d => cases el; exact k ι5 H5 (F1.trans F6)
    · cases el
  · have hi2 : i = s.xs.length := by omega
    subst hi2
    rw [List.drop_length] at el
    unfold sLoop at el
    split at el
    · rename_i hok
      cases el
      exact .inl ⟨(it ι2 [] _ H2 F2 (fun _ h => nomatch h) R2.sr (Src.ok_of hok) _).2 rfl, k ι2 H2 (F1.trans F2) τ2 R2⟩
    · cases el
end

/-! ### while -/
def wN (c : DenB) (b : SDen) : Nat → Env → Sto → Option (Fl × Sto)
  | 0, _, _ => none
  | n + 1, σ, μ => (c σ μ).bind fun p => if p.1 = true then (b σ p.2).bind fun q => match q.1 with
      | .nx σ2 => wN c b n σ2 q.2
      | .ct σ2 => wN c b n σ2 q.2
      | .bk σ2 => some (.nx σ2, q.2)
      | .rt d => some (.rt d, q.2)
    else some (.nx σ, p.2)
theorem wN_succ {c : DenB} {b : SDen} : ∀ {n : Nat} {σ : Env} {μ : Sto} {r : Fl × Sto}, wN c b n σ μ = some r → wN c b (n + 1) σ μ = some r
  | 0, _, _, _, h => by cases h
  | n + 1, σ, μ, r, h => by
    unfold wN at h ⊢
    obtain ⟨p, e1, h⟩ := bind_some h
    rw [e1]
    show (if p.1 = true then _ else _) = some r
    by_cases hp : p.1 = true
    · rw [if_pos hp] at h ⊢
      obtain ⟨q, e2, h⟩ := bind_some h
      rw [e2]
      obtain ⟨fl, μ2⟩ := q
      cases fl with
      | nx σ2 => exact wN_succ h
      | ct σ2 => exact wN_succ h
      | bk σ2 => exact h
      | rt d => exact h
    · rw [if_neg hp] at h ⊢
      exact h
theorem wN_add {c : DenB} {b : SDen} {n : Nat} {σ : Env} {μ : Sto} {r : Fl × Sto} (h : wN c b n σ μ = some r) : ∀ m, wN c b (n + m) σ μ = some r
  | 0 => h
  | m + 1 => wN_succ (wN_add h m)
/-- rounds of a while -/
def wLim : Nat := 1000000
def sWhile (c : DenB) (b : SDen) : SDen := fun σ μ => wN c b wLim σ μ
theorem sWhile_some {c : DenB} {b : SDen} {σ : Env} {μ : Sto} {r : Fl × Sto} (h : sWhile c b σ μ = some r) : ∃ n, wN c b n σ μ = some r := ⟨_, h⟩
theorem sWhile_of {c : DenB} {b : SDen} {σ : Env} {μ : Sto} {r : Fl × Sto} {n : Nat} (hn : n ≤ wLim) (h : wN c b n σ μ = some r) : sWhile c b σ μ = some r := by
  have q := wN_add h (wLim - n)
  rw [Nat.add_sub_cancel' hn] at q
  exact q
section
variable {X : Cx} {c : Expr} {body : List Stmt} {fc : DenB} {b : SDen} {pos : Pos}
theorem s_while (hp : PassesOwn (model X.prog X.w) X.A X.env X.xe) (hc : PT X c (dT (bx X) fc)) (hb : PSs X body (dS (bx X) b)) : PS X (.While c body [] pos) (dS (bx X) (sWhile fc b)) := (ps_while hp hc hb).to fun E τ H h => by
  obtain ⟨ι, σ, μ, fl, μ', R, e, k⟩ := h
  obtain ⟨n, e⟩ := sWhile_some e
  refine ⟨fun m τ2 H2 => ∃ ι2 σ2 μ2, Fra ι ι2 H H2 ∧ Rel (bx X) ι2 σ2 μ2 τ2 H2 ∧ wN fc b m σ2 μ2 = some (fl, μ'), ⟨n, ι, σ, μ, .refl _ _, R, e⟩, ?_⟩
  rintro m τ2 H2 ⟨ι2, σ2, μ2, F2, R2, e2⟩
  cases m with
  | zero => cases e2
  | succ m =>
    unfold wN at e2
    obtain ⟨⟨q, μ3⟩, e3, e2⟩ := bind_some e2
    refine ⟨ι2, σ2, μ2, q, μ3, R2, e3, fun ι3 H3 F3 R3 => ?_⟩
    cases q with
    | true =>
      rw [if_pos rfl]
      rw [if_pos rfl] at e2
      obtain ⟨⟨fl4, μ4⟩, e4, e2⟩ := bind_some e2
      refine ⟨fun τ5 H5 => ∃ ι5 σ5 μ5, Fra ι ι5 H H5 ∧ Rel (bx X) ι5 σ5 μ5 τ5 H5 ∧ wN fc b m σ5 μ5 = some (fl, μ'), fun τ5 H5 h5 => ⟨m, Nat.lt_succ_self m, h5⟩, ι3, σ2, μ3, fl4, μ4, R3, e4, fun ι5 H5 F5 => ?_⟩
      have F6 := (F2.trans F3).trans F5
      cases fl4 with
      | nx σ5 => exact fun τ5 R5 => ⟨ι5, σ5, μ4, F6, R5, e2⟩
      | ct σ5 => exact fun τ5 R5 => ⟨ι5, σ5, μ4, F6, R5, e2⟩
      | bk σ5 => cases e2; exact k ι5 H5 F6
      | rt d => cases e2; exact k ι5 H5 F6
    | false =>
      rw [if_neg Bool.false_ne_true] at e2 ⊢
      cases e2
      exact k ι3 H3 (F2.trans F3) τ2 R3
end

/-! ### defs -/
def spD (B : Kx) (φ : List D → M D) : Sp := fun vs H Q _ => ∃ ι μ ds d μ', SR B ι μ H ∧ Reps B ι H vs ds ∧ φ ds μ = some (d, μ') ∧
  ∀ v ι' H', Fra ι ι' H H' → SR B ι' μ' H' → Rep B ι' H' v d → Q v H'
def start0 (n : Nat) (ds : List D) : Env := ds.map some ++ List.replicate (n - ds.length) none
/-- j parameters, n names -/
def fDef (j n : Nat) (b : SDen) : List D → M D := fun ds μ => if ds.length = j then (b (start0 n ds) μ).bind fun p => match p.1 with
  | .rt d => some (d, p.2)
  | .nx _ => some (.none, p.2)
  | _ => none
  else none
theorem fDef_len {j n : Nat} {b : SDen} {ds : List D} {μ : Sto} {r : D × Sto} (h : fDef j n b ds μ = some r) : ds.length = j := by
  unfold fDef at h
  split at h
  · assumption
  · cases h
theorem rel_start {B : Kx} {ι : Ix} {μ : Sto} {H : Hp} {vs : List V} {ds : List D} (S : SR B ι μ H) (r : Reps B ι H vs ds) (N : List Str) : Rel B ι (start0 N.length ds) μ (L2.start N vs) H := by
  refine ⟨S, ?_, fun i d e => ?_⟩
  · unfold start0 L2.start
    rw [List.length_append, List.length_append, List.length_map, List.length_map, List.length_replicate, List.length_replicate, r.length]
  · unfold start0 at e
    by_cases hi : i < ds.length
    · rw [List.getElem?_append_left (by rw [List.length_map]; exact hi), List.getElem?_map] at e
      obtain ⟨d', h1, h2⟩ := Option.map_eq_some_iff.mp e
      cases h2
      obtain ⟨v, hv, rv⟩ := r.get h1
      refine ⟨v, ?_, rv⟩
      unfold L2.start
      rw [List.getElem?_append_left (by rw [List.length_map, r.length]; exact hi), List.getElem?_map, hv]
      rfl
    · rw [List.getElem?_append_right (by rw [List.length_map]; omega), List.getElem?_replicate] at e
      split at e <;> cases e
section
variable {P : Program} {w : World} {K : PySem.W.Frag} {mg : Str → Option Value} {base : Heap}
theorem def_ok {x qual : Str} {st : Stmt} {f : Addr} {fd : FuncData} {N ps : List Str} {k : Nat} {b : SDen} (F : Fun K x qual st f fd) (S : FnScope N ps (defScope st))
    (hbody : ∀ (cdv : Value) (A : Around) (outer : List PySem.Env) (s : Shared) (H : Hp) (E : XK), Room k (A.deeper (envOfC qual (defScope st) s.heap.objs.size f cdv)) →
      PSs (cxOf CX0 P w K mg base N qual (defScope st) f cdv A outer s H E).nox (defBody st) (dS ⟨K, w⟩ b)) : FnOk P w K mg base CX0 (k + 1) f fd ps (spD ⟨K, w⟩ (fDef ps.length N.length b)) := by
  refine F.ok S (fun vs H Q E h => ?_) (fun cdv A outer s H vs Q E hr h => ?_)
  · obtain ⟨ι, μ, ds, d, μ', S, r, e, q⟩ := h
    rw [r.length, fDef_len e]
  · obtain ⟨ι, μ, ds, d, μ', S, r, e, q⟩ := h
    have hl := fDef_len e
    unfold fDef at e
    rw [if_pos hl] at e
    refine ⟨_, hbody cdv A outer s H E hr, ι, start0 N.length ds, μ, ?_⟩
    obtain ⟨⟨fl, μ1⟩, e1, e2⟩ := bind_some e
    refine ⟨fl, μ1, rel_start S r N, e1, fun ι1 H1 F1 => ?_⟩
    cases fl with
    | rt d' =>
      cases e2
      exact fun v S1 r1 => q v ι1 H1 F1 S1 r1
    | nx σ' =>
      cases e2
      exact fun τ R => q .non ι1 H1 F1 R.sr .non
    | bk _ => cases e2
    | ct _ => cases e2
end
section
variable {X : Cx} {CX : CXT} {k : Nat} {f : Addr} {fd : FuncData} {ps : List Str} {φ : List D → M D} {E : XK} {x : Str} {p pos : Pos} {e : Expr} {es : List Expr} {r : DenL}
theorem goCall {B : Kx} {τ : L2.St} {H : Hp} {Q : VK} (h : dE B (dF φ r) τ H Q) : tCall (spD B φ) [] E (dA B r) τ H Q := by
  obtain ⟨ι, σ, μ, d, μ', R, e, k⟩ := h
  obtain ⟨⟨ds, μ1⟩, e1, e⟩ := bind_some e
  refine ⟨ι, σ, μ, ds, μ1, R, e1, fun xs ι1 H1 F1 R1 r1 => ?_⟩
  show spD B φ (xs ++ []) H1 Q E
  rw [List.append_nil]
  exact ⟨ι1, μ1, ds, d, μ', R1.sr, r1, e, fun v ι3 H3 F3 S3 r3 => k v ι3 H3 (F1.trans F3) (R1.mono F3 S3) r3⟩
theorem e_call (F : FnOk X.prog X.w X.K X.mg X.base CX k f fd ps (spD (bx X) φ)) (hr : Room k X.A) (hg : Gl X x) (hm : X.mg x = some (.ref f)) (hk : PySem.W.keepIn X.K (.ref f) = true) (hb : Binds X.K fd ps [])
    (hx : Passes CX X E) (ha : PA X (e :: es) (dA (bx X) r)) (hdb : (x == ("__debug__" : Str)) = false := by decide) (he : starEach (e :: es) X.env = (false, eval e X.env) :: starEach es X.env := by rfl) (hpl : (backTo pos (starEach es X.env)).any (·.1) = false := by rfl) :
    PE X (.Call (.Name x p) (e :: es) [] pos) (dE (bx X) (dF φ r)) := (pe_call F hr hg hm hk hb .nil hx ha hdb he hpl).to fun _ _ _ h => goCall h
theorem e_call0 (F : FnOk X.prog X.w X.K X.mg X.base CX k f fd ps (spD (bx X) φ)) (hr : Room k X.A) (hg : Gl X x) (hm : X.mg x = some (.ref f)) (hk : PySem.W.keepIn X.K (.ref f) = true) (hb : Binds X.K fd ps [])
    (hx : Passes CX X E) (hdb : (x == ("__debug__" : Str)) = false := by decide) : PE X (.Call (.Name x p) [] [] pos) (dE (bx X) (dF φ dNil)) := (pe_call0 F hr hg hm hk hb .nil hx hdb).to fun τ H Q h => by
  obtain ⟨ι, σ, μ, ds, μ', R, e, k⟩ := goCall (E := E) h
  cases e
  exact k [] ι H (.refl ι H) R .nil
end
end Dn
end

section
set_option maxRecDepth 100000
set_option maxHeartbeats 4000000
/-! Dn5: list comprehensions -/
namespace Dn
open PySem PySem.Spec PyProof.Rows L2

def wipeD (σ : Env) : List Nat → Env
  | [] => σ
  | v :: vs => (wipeD σ vs).set v none
theorem wipe_get (τ : L2.St) : ∀ (vs : List Nat) (i : Nat), (wipe τ vs)[i]? = if i ∈ vs then (τ[i]?).map (fun _ => none) else τ[i]?
  | [], i => by simp [wipe]
  | v :: vs, i => by
    unfold wipe
    by_cases h : i = v
    · subst h
      rw [if_pos List.mem_cons_self]
      by_cases hl : i < τ.length
      · rw [List.getElem?_set_self (by rw [wipe_length]; exact hl), List.getElem?_eq_getElem hl]
        rfl
      · rw [List.getElem?_eq_none (by rw [List.length_set, wipe_length]; omega), List.getElem?_eq_none (by omega)]
        rfl
    · rw [List.getElem?_set_ne (Ne.symm h), wipe_get τ vs i]
      by_cases h2 : i ∈ vs
      · rw [if_pos h2, if_pos (List.mem_cons_of_mem _ h2)]
      · rw [if_neg h2, if_neg (by simp [h, h2])]
theorem wipe_eq {τ τ' : L2.St} {vs : List Nat} (hl : τ'.length = τ.length) (h : ∀ i, i ∉ vs → τ'[i]? = τ[i]?) : wipe τ' vs = wipe τ vs := by
  refine List.ext_getElem? fun i => ?_
  rw [wipe_get, wipe_get]
  by_cases hi : i ∈ vs
  · rw [if_pos hi, if_pos hi]
    by_cases hj : i < τ.length
    · rw [List.getElem?_eq_getElem hj, List.getElem?_eq_getElem (by rw [hl]; exact hj)]
      rfl
    · rw [List.getElem?_eq_none (by omega), List.getElem?_eq_none (by omega)]
  · rw [if_neg hi, if_neg hi]
    exact h i hi
theorem wipeD_length (σ : Env) : ∀ vs : List Nat, (wipeD σ vs).length = σ.length
  | [] => rfl
  | v :: vs => by unfold wipeD; rw [List.length_set, wipeD_length σ vs]
theorem Rel.wipe {B : Kx} {ι : Ix} {σ : Env} {μ : Sto} {τ : L2.St} {H : Hp} (R : Rel B ι σ μ τ H) : ∀ vs : List Nat, Rel B ι (wipeD σ vs) μ (wipe τ vs) H
  | [] => R
  | v :: vs => by
    have q := R.wipe vs
    unfold wipeD L2.wipe
    refine ⟨q.sr, by rw [List.length_set, List.length_set]; exact q.len, fun i d e => ?_⟩
    by_cases h : i = v
    · subst h
      by_cases hl : i < (wipeD σ vs).length
      · rw [List.getElem?_set_self hl] at e
        cases e
      · rw [List.getElem?_eq_none (by rw [List.length_set]; omega)] at e
        cases e
    · rw [List.getElem?_set_ne (Ne.symm h)] at e ⊢
      exact q.slot i d e

def lcLoop (g : Tg) (c : DenB) (f : Den) (s : Src) (σ : Env) : List D → List D → Sto → Option (List D × Sto)
  | [], acc, μ => if s.okB μ = true then some (acc, μ) else none
  | d :: ds, acc, μ => if s.okB μ = true then (g d σ).bind fun σ1 => (c σ1 μ).bind fun p => if p.1 = true then (f σ1 p.2).bind fun q => if acc.length < lim then lcLoop g c f s σ ds (acc ++ [q.1]) q.2 else none
      else lcLoop g c f s σ ds acc p.2
    else none
/-- [f for g in it if c]; vs: the places of its own names; the list is not written any more -/
def dLc (vs : List Nat) (it : DenI) (g : Tg) (c : DenB) (f : Den) : Den := fun σ μ => (it σ μ).bind fun p => (lcLoop g c f p.1 (wipeD σ vs) p.1.xs [] p.2).bind fun q => some (.list q.1, q.2)
/-- .. the list is of the store -/
def dLcN (vs : List Nat) (it : DenI) (g : Tg) (c : DenB) (f : Den) : Den := fun σ μ => (it σ μ).bind fun p => (lcLoop g c f p.1 (wipeD σ vs) p.1.xs [] p.2).bind fun q => some (rf q.2.length, q.2 ++ [.lst q.1])
def bYes : DenB := fun _ μ => some (true, μ)
section
variable {X : Cx} {pos : Pos}
theorem ts_nil : PTs X [] (dT (bx X) bYes) := ⟨fun pins s τ H Q I h => pts_nil.run pins s τ H Q I (by
  obtain ⟨ι, σ, μ, b, μ', R, e, k⟩ := h
  cases e
  exact k ι H (.refl ι H) R)⟩
theorem ts_one {c : Expr} {fc : DenB} (h : PT X c (dT (bx X) fc)) : PTs X [c] (dT (bx X) fc) := pts_one h
variable {vs ws : List Nat} {it : DenI} {g : Tg} {c : DenB} {f : Den}
/-- the loop of a comprehension, whatever is done with its list -/
theorem goLc {B : Kx} {τ : L2.St} {H : Hp} {Q : VK} (hw : ∀ i ∈ ws, i ∈ vs)
    (h : ∃ ι σ μ s μ1 acc μ2, Rel B ι σ μ τ H ∧ it σ μ = some (s, μ1) ∧ lcLoop g c f s (wipeD σ vs) s.xs [] μ1 = some (acc, μ2) ∧
      ∀ p xs ι' H', Fra ι ι' H H' → p ∉ ι.z → Rel B (ι'.hide p) σ μ2 τ H' → H p = none → H' p = some (.lst xs) → Reps B (ι'.hide p) H' xs acc → Q (.ref p) H') :
    tLc (dI B it) (dG B ws g) (dT B c) (dE B f) vs τ H Q := by
  obtain ⟨ι, σ, μ, s, μ1, acc, μ2, R, e1, e2, k⟩ := h
  refine ⟨ι, σ, μ, s, μ1, R, e1, fun J ι1 H1 F1 R1 it D hD => ?_⟩
  -- W: all but the place D is behind H1
  refine ⟨fun i m H2 => m = s.xs.length - i ∧ i ≤ s.xs.length ∧ ∃ ι2 μ3 xs acc3, Fra ι1 ι2 H1 H2 ∧ SR B (ι2.hide D) μ3 H2 ∧ H2 D = some (.lst xs) ∧ Reps B (ι2.hide D) H2 xs acc3 ∧ Rel B (ι2.hide D) σ μ3 τ H2 ∧
      lcLoop g c f s (wipeD σ vs) (s.xs.drop i) acc3 μ3 = some (acc, μ2),
    ⟨s.xs.length, by simp, Nat.zero_le _, ι1, μ1, [], [], R1.sr.fra hD, R1.sr.hide hD, upd_same, .nil, R1.cv (cv_hide hD) (R1.sr.hide hD), by rw [List.drop_zero]; exact e2⟩, ?_⟩
  rintro i m H2 ⟨rfl, hi, ι2, μ3, xs, acc3, F2, S2, hx, hr, R2, el⟩
  have hz : D ∈ (ι2.hide D).z := List.mem_cons_self
  have hz1 : ∀ b ∈ [D], H1 b = none := fun b hb => by rw [List.mem_singleton.mp hb]; exact hD
  by_cases hlt : i < s.xs.length
  · rw [List.drop_eq_getElem_cons hlt] at el
    unfold lcLoop at el
    split at el
    · rename_i hok
      obtain ⟨σ3, e3, el⟩ := bind_some el
      obtain ⟨⟨b4, μ4⟩, e4, el⟩ := bind_some el
      obtain ⟨hgo, hy⟩ := (it ι2 [D] μ3 H2 F2 hz1 S2 (Src.ok_of hok) i).1 _ (List.getElem?_eq_getElem hlt)
      refine .inr ⟨hgo, fun H4 => ∃ ι4 μ5 xs acc4, Fra ι1 ι4 H1 H4 ∧ SR B (ι4.hide D) μ5 H4 ∧ H4 D = some (.lst xs) ∧ Reps B (ι4.hide D) H4 xs acc4 ∧ Rel B (ι4.hide D) σ μ5 τ H4 ∧
        lcLoop g c f s (wipeD σ vs) (s.xs.drop (i + 1)) acc4 μ5 = some (acc, μ2), fun H4 h4 => ⟨_, by omega, rfl, hlt, h4⟩, fun x H3 y3 => ?_⟩
      obtain ⟨sm, rx⟩ := hy x H3 y3
      have G3 : Fra (ι2.hide D) (ι2.hide D) H2 H3 := fra_same S2 sm
      have R3 : Rel B (ι2.hide D) (wipeD σ vs) μ3 (wipe τ vs) H3 := (R2.mono G3 (S2.same sm)).wipe vs
      refine ⟨ι2.hide D, wipeD σ vs, μ3, _, σ3, R3, rx, e3, fun τ3 R4 hl3 hn3 => ⟨?_, ?_⟩⟩
      · rw [wipe_eq (τ := wipe τ vs) hl3 fun j hj => hn3 j fun z => hj (hw j z)]
        exact wipe_eq (wipe_length ..) fun j hj => by rw [wipe_get, if_neg hj]
      · refine ⟨ι2.hide D, σ3, μ3, b4, μ4, R4, e4, fun ι5 H5 F5 R5 => ?_⟩
        have G5 : Fra (ι2.hide D) ι5 H2 H5 := G3.trans F5
        cases b4 with
        | true =>
          show dE B f τ3 H5 _
          have el : ((f σ3 μ4).bind fun q => if acc3.length < lim then lcLoop g c f s (wipeD σ vs) (s.xs.drop (i + 1)) (acc3 ++ [q.1]) q.2 else none) = some (acc, μ2) := el
          obtain ⟨⟨d6, μ6⟩, e6, el⟩ := bind_some el
          refine ⟨ι5, σ3, μ4, d6, μ6, R5, e6, fun v ι7 H7 F7 R7 r7 => ?_⟩
          have G7 : Fra (ι2.hide D) ι7 H2 H7 := G5.trans F7
          have hx7 : H7 D = some (.lst xs) := G7.keep D _ hx (S2.zt D hz).2
          have hz7 : D ∈ ι7.z := by rw [G7.zz]; exact hz
          obtain ⟨ι8, rfl⟩ : ∃ ι8 : Ix, ι7 = ι8.hide D := ⟨⟨ι7.a, ι2.z⟩, by
            cases ι7
            have := G7.zz
            simp only at this
            subst this
            rfl⟩
          have el : (if acc3.length < lim then lcLoop g c f s (wipeD σ vs) (s.xs.drop (i + 1)) (acc3 ++ [d6]) μ6 else none) = some (acc, μ2) := el
          split at el
          · rename_i hlim
            have zz8 : ι8.z = ι2.z := by
              have := G7.zz
              exact (List.cons.inj this).2
            refine ⟨xs, hx7, by rw [hr.length]; exact lim_lt hlim, ι8, μ6, xs ++ [v], acc3 ++ [d6], ?_, R7.sr.priv hz7, upd_same, ((hr.mono G7).append (.one r7)).cv (cv_priv hz7), (R2.mono G7 R7.sr).cv (cv_priv hz7) (R7.sr.priv hz7), el⟩
            refine ⟨?_, zz8.trans F2.zz, fun a o e n => ?_, fun a h n => ?_⟩
            · obtain ⟨t1, h1⟩ := F2.pre
              obtain ⟨t2, h2⟩ := G7.pre
              exact ⟨t1 ++ t2, by rw [show ι8.a = ι2.a ++ t2 from h2, h1, List.append_assoc]⟩
            · have ne := ne_of_none e hD
              rw [upd_ne ne]
              exact G7.keep a o (F2.keep a o e n) (F2.outA e n)
            · by_cases h2 : a ∈ ι2.a
              · exact F2.new a h2 n
              · have h3 := G7.new a h h2
                cases e : H1 a with
                | none => rfl
                | some o =>
                  rw [F2.keep a o e n] at h3
                  cases h3
          · cases el
        | false =>
          have el : lcLoop g c f s (wipeD σ vs) (s.xs.drop (i + 1)) acc3 μ4 = some (acc, μ2) := el
          show ∃ ι4 μ5 xs acc4, _
          obtain ⟨ι8, rfl⟩ : ∃ ι8 : Ix, ι5 = ι8.hide D := ⟨⟨ι5.a, ι2.z⟩, by
            cases ι5
            have := G5.zz
            simp only at this
            subst this
            rfl⟩
          have zz8 : ι8.z = ι2.z := by
            have := G5.zz
            exact (List.cons.inj this).2
          refine ⟨ι8, μ4, xs, acc3, ?_, R5.sr, G5.keep D _ hx (S2.zt D hz).2, hr.mono G5, R2.mono G5 R5.sr, el⟩
          refine ⟨?_, zz8.trans F2.zz, fun a o e n => G5.keep a o (F2.keep a o e n) (F2.outA e n), fun a h n => ?_⟩
          · obtain ⟨t1, h1⟩ := F2.pre
            obtain ⟨t2, h2⟩ := G5.pre
            exact ⟨t1 ++ t2, by rw [show ι8.a = ι2.a ++ t2 from h2, h1, List.append_assoc]⟩
          · by_cases h2 : a ∈ ι2.a
            · exact F2.new a h2 n
            · have h3 := G5.new a h h2
              cases e : H1 a with
              | none => rfl
              | some o =>
                rw [F2.keep a o e n] at h3
                cases h3
    · cases el
  · have hi2 : i = s.xs.length := by omega
    subst hi2
    rw [List.drop_length] at el
    unfold lcLoop at el
    split at el
    · rename_i hok
      cases el
      refine .inl ⟨(it ι2 [D] _ H2 F2 hz1 S2 (Src.ok_of hok) _).2 rfl, ?_⟩
      have hDn : H D = none := by
        cases e : H D with
        | none => rfl
        | some o =>
          by_cases hm : D ∈ ι.a
          · obtain ⟨u, hu⟩ := R1.sr.tracked (show D ∈ ι1.a by
              obtain ⟨t, et⟩ := F1.pre
              rw [et]
              exact List.mem_append_left _ hm)
            rw [hD] at hu
            cases hu
          · have := F1.keep D o e hm
            rw [hD] at this
            cases this
      exact k D xs ι2 H2 (F1.trans F2) (by rw [← F1.zz]; exact (R1.sr.out hD).2) R2 hDn hx hr
    · cases el
theorem cv_adopt {ι : Ix} {H : Hp} {p : Addr} : Cv (ι.hide p) (ι.push p) H H := ⟨fun b u h n => ⟨h, fun z => by
  rcases List.mem_append.mp z with z | z
  · exact n.1 z
  · rw [List.mem_singleton.mp z] at n
    exact n.2 List.mem_cons_self, fun z => n.2 (List.mem_cons_of_mem _ z)⟩, fun n b h => by
  show (ι.a ++ [p])[n]? = some b
  have h : ι.a[n]? = some b := h
  rw [List.getElem?_append_left (List.getElem?_eq_some_iff.mp h).1]
  exact h⟩
theorem SR.adopt {B : Kx} {ι : Ix} {μ : Sto} {H : Hp} {p : Addr} {xs : List V} {ds : List D} (S : SR B (ι.hide p) μ H) (hz : p ∉ ι.z) (h : H p = some (.lst xs)) (r : Reps B (ι.hide p) H xs ds) : SR B (ι.push p) (μ ++ [.lst ds]) H := by
  have hp : p ∉ ι.a := (S.zt p List.mem_cons_self).2
  refine ⟨?_, ?_, fun n a v e1 e2 => ?_, fun b hb => ?_⟩
  · show (ι.a ++ [p]).Nodup
    rw [List.nodup_append]
    refine ⟨S.nd, by simp, fun a ha b hb => ?_⟩
    rw [List.mem_singleton.mp hb]
    rintro rfl
    exact hp ha
  · show (ι.a ++ [p]).length = _
    rw [List.length_append, List.length_append, show ι.a.length = μ.length from S.len]
    rfl
  · have e1 : (ι.a ++ [p])[n]? = some a := e1
    have sl : ι.a.length = μ.length := S.len
    by_cases hn : n < ι.a.length
    · rw [List.getElem?_append_left hn] at e1
      rw [List.getElem?_append_left (by rw [← sl]; exact hn)] at e2
      exact (S.obj n a v e1 e2).cv cv_adopt rfl
    · have e3 : n = ι.a.length := by
        have h3 := (List.getElem?_eq_some_iff.mp e1).1
        rw [List.length_append] at h3
        have h4 : [p].length = 1 := rfl
        omega
      subst e3
      rw [List.getElem?_append_right (Nat.le_refl _), Nat.sub_self] at e1
      rw [sl, List.getElem?_append_right (Nat.le_refl _), Nat.sub_self] at e2
      have e4 : p = a := Option.some.inj e1
      have e5 : O.lst ds = v := Option.some.inj e2
      subst e4 e5
      exact ⟨xs, h, r.cv cv_adopt⟩
  · obtain ⟨x, n⟩ := S.zt b (List.mem_cons_of_mem _ hb)
    refine ⟨x, fun z => ?_⟩
    rcases List.mem_append.mp z with z | z
    · exact n z
    · rw [List.mem_singleton.mp z] at hb
      exact hz hb
/-- the list behind a comprehension: frozen; of the store -/
theorem lc_frozen {B : Kx} {ι ι' : Ix} {σ : Env} {μ2 : Sto} {τ : L2.St} {H H' : Hp} {p : Addr} {xs : List V} {acc : List D} (F : Fra ι ι' H H') (hz : p ∉ ι.z) (R : Rel B (ι'.hide p) σ μ2 τ H') (h : H' p = some (.lst xs)) (r : Reps B (ι'.hide p) H' xs acc) :
    Rel B ι' σ μ2 τ H' ∧ Rep B ι' H' (.ref p) (.list acc) :=
  ⟨R.cv cv_show R.sr.show, .lst h ⟨(R.sr.zt p List.mem_cons_self).2, by rw [F.zz]; exact hz⟩ (r.cv cv_show)⟩
theorem lc_stored {B : Kx} {ι ι' : Ix} {σ : Env} {μ2 : Sto} {τ : L2.St} {H H' : Hp} {p : Addr} {xs : List V} {acc : List D} (F : Fra ι ι' H H') (hz : p ∉ ι.z) (R : Rel B (ι'.hide p) σ μ2 τ H') (hn : H p = none) (h : H' p = some (.lst xs)) (r : Reps B (ι'.hide p) H' xs acc) :
    Fra ι (ι'.push p) H H' ∧ Rel B (ι'.push p) σ (μ2 ++ [.lst acc]) τ H' ∧ Rep B (ι'.push p) H' (.ref p) (rf μ2.length) := by
  refine ⟨⟨?_, F.zz, F.keep, fun b hb n => ?_⟩, R.cv cv_adopt (R.sr.adopt (by rw [F.zz]; exact hz) h r), .rf ?_⟩
  · obtain ⟨t, e⟩ := F.pre
    exact ⟨t ++ [p], by show ι'.a ++ [p] = _; rw [e, List.append_assoc]⟩
  · rcases List.mem_append.mp hb with hb | hb
    · exact F.new b hb n
    · rw [List.mem_singleton.mp hb]
      exact hn
  · show (ι'.a ++ [p])[μ2.length]? = some p
    rw [← show ι'.a.length = μ2.length from R.sr.len, List.getElem?_append_right (Nat.le_refl _), Nat.sub_self]
    rfl
variable {elt tg iter : Expr} {ifs : List Expr} {scope : Scope} {own : List (Str × Nat)}
theorem e_lc (own : List (Str × Nat)) (hc : X.calm = true) (hN : X.N.Nodup) (hi : PI X tg iter (dI (bx X) it)) (ok : BlkOk X.N X.env.scope scope own)
    (hg : ∀ (s : Shared) (H : Hp) (C : Addr) (cl : List (Str × Addr)) (fp : List Addr), PG (X.blk s H scope (compEnvC scope cl C X.env) fp) tg (dG (bx X) ws g))
    (ht : ∀ (s : Shared) (H : Hp) (C : Addr) (cl : List (Str × Addr)) (fp : List Addr), PTs (X.blk s H scope (compEnvC scope cl C X.env) fp) ifs (dT (bx X) c))
    (he : ∀ (s : Shared) (H : Hp) (C : Addr) (cl : List (Str × Addr)) (fp : List Addr), PE (X.blk s H scope (compEnvC scope cl C X.env) fp) elt (dE (bx X) f))
    (hw : ∀ i ∈ ws, i ∈ own.map (·.2) := by decide) (hs : ∀ x, foldedSetIterable iter X.env x = pure x := by intro _; rfl) :
    PE X (.ListComp elt [⟨tg, iter, ifs, 0⟩] scope pos) (dE (bx X) (dLc (own.map (·.2)) it g c f)) := (pe_lc hc hN hi ok hg ht he hs).to fun τ H Q h => by
  obtain ⟨ι, σ, μ, d, μ', R, e, k⟩ := h
  obtain ⟨⟨s, μ1⟩, e1, e⟩ := bind_some e
  obtain ⟨⟨acc, μ2⟩, e2, e⟩ := bind_some e
  cases e
  refine goLc hw ⟨ι, σ, μ, s, μ1, acc, _, R, e1, e2, fun p xs ι' H' F hz R' hn hx hr => ?_⟩
  obtain ⟨R2, r2⟩ := lc_frozen F hz R' hx hr
  exact k _ ι' H' F R2 r2
theorem e_lcN (own : List (Str × Nat)) (hc : X.calm = true) (hN : X.N.Nodup) (hi : PI X tg iter (dI (bx X) it)) (ok : BlkOk X.N X.env.scope scope own)
    (hg : ∀ (s : Shared) (H : Hp) (C : Addr) (cl : List (Str × Addr)) (fp : List Addr), PG (X.blk s H scope (compEnvC scope cl C X.env) fp) tg (dG (bx X) ws g))
    (ht : ∀ (s : Shared) (H : Hp) (C : Addr) (cl : List (Str × Addr)) (fp : List Addr), PTs (X.blk s H scope (compEnvC scope cl C X.env) fp) ifs (dT (bx X) c))
    (he : ∀ (s : Shared) (H : Hp) (C : Addr) (cl : List (Str × Addr)) (fp : List Addr), PE (X.blk s H scope (compEnvC scope cl C X.env) fp) elt (dE (bx X) f))
    (hw : ∀ i ∈ ws, i ∈ own.map (·.2) := by decide) (hs : ∀ x, foldedSetIterable iter X.env x = pure x := by intro _; rfl) :
    PE X (.ListComp elt [⟨tg, iter, ifs, 0⟩] scope pos) (dE (bx X) (dLcN (own.map (·.2)) it g c f)) := (pe_lc hc hN hi ok hg ht he hs).to fun τ H Q h => by
  obtain ⟨ι, σ, μ, d, μ', R, e, k⟩ := h
  obtain ⟨⟨s, μ1⟩, e1, e⟩ := bind_some e
  obtain ⟨⟨acc, μ2⟩, e2, e⟩ := bind_some e
  cases e
  refine goLc hw ⟨ι, σ, μ, s, μ1, acc, μ2, R, e1, e2, fun p xs ι' H' F hz R' hn hx hr => ?_⟩
  obtain ⟨F2, R2, r2⟩ := lc_stored F hz R' hn hx hr
  exact k _ _ H' F2 R2 r2
/-- name = [..], the name a local of the def -/
theorem s_setLc {i : Nat} {y : Str} {py spos : Pos} (own : List (Str × Nat)) (hc : X.calm = true) (hN : X.N.Nodup) (hy : X.N[i]? = some y) (hyl : X.env.scope.names.lookup y = some .local)
    (hsw : swapsWith (.ListComp elt [⟨tg, iter, ifs, 0⟩] scope pos) (some (.Name y py)) spos.line X.env = pure true) (hi : PI X tg iter (dI (bx X) it)) (ok : BlkOk X.N X.env.scope scope own)
    (hg : ∀ (s : Shared) (H : Hp) (C : Addr) (cl : List (Str × Addr)) (fp : List Addr), PG (X.blk s H scope (compEnvC scope cl C X.env) fp) tg (dG (bx X) ws g))
    (ht : ∀ (s : Shared) (H : Hp) (C : Addr) (cl : List (Str × Addr)) (fp : List Addr), PTs (X.blk s H scope (compEnvC scope cl C X.env) fp) ifs (dT (bx X) c))
    (he : ∀ (s : Shared) (H : Hp) (C : Addr) (cl : List (Str × Addr)) (fp : List Addr), PE (X.blk s H scope (compEnvC scope cl C X.env) fp) elt (dE (bx X) f))
    (hw : ∀ i ∈ ws, i ∈ own.map (·.2) := by decide) (hs : ∀ x, foldedSetIterable iter X.env x = pure x := by intro _; rfl) :
    PS X (.Assign [.Name y py] (.ListComp elt [⟨tg, iter, ifs, 0⟩] scope pos) spos) (dS (bx X) (sSet i (dLc (own.map (·.2)) it g c f))) := (ps_setLc hc hN hy hyl hsw hi ok hg ht he hs).to fun E τ H h => by
  obtain ⟨ι, σ, μ, fl, μ', R, e, k⟩ := h
  obtain ⟨⟨d, μ0⟩, e0, e⟩ := bind_some e
  cases e
  obtain ⟨⟨s, μ1⟩, e1, e⟩ := bind_some e0
  obtain ⟨⟨acc, μ2⟩, e2, e⟩ := bind_some e
  cases e
  refine goLc (Q := fun x H1 => gName i x τ H1 E.nx) hw ⟨ι, σ, μ, s, μ1, acc, _, R, e1, e2, fun p xs ι' H' F hz R' hn hx hr => ?_⟩
  obtain ⟨R2, r2⟩ := lc_frozen F hz R' hx hr
  exact k ι' H' F _ (R2.set i r2)
theorem s_setLcN {i : Nat} {y : Str} {py spos : Pos} (own : List (Str × Nat)) (hc : X.calm = true) (hN : X.N.Nodup) (hy : X.N[i]? = some y) (hyl : X.env.scope.names.lookup y = some .local)
    (hsw : swapsWith (.ListComp elt [⟨tg, iter, ifs, 0⟩] scope pos) (some (.Name y py)) spos.line X.env = pure true) (hi : PI X tg iter (dI (bx X) it)) (ok : BlkOk X.N X.env.scope scope own)
    (hg : ∀ (s : Shared) (H : Hp) (C : Addr) (cl : List (Str × Addr)) (fp : List Addr), PG (X.blk s H scope (compEnvC scope cl C X.env) fp) tg (dG (bx X) ws g))
    (ht : ∀ (s : Shared) (H : Hp) (C : Addr) (cl : List (Str × Addr)) (fp : List Addr), PTs (X.blk s H scope (compEnvC scope cl C X.env) fp) ifs (dT (bx X) c))
    (he : ∀ (s : Shared) (H : Hp) (C : Addr) (cl : List (Str × Addr)) (fp : List Addr), PE (X.blk s H scope (compEnvC scope cl C X.env) fp) elt (dE (bx X) f))
    (hw : ∀ i ∈ ws, i ∈ own.map (·.2) := by decide) (hs : ∀ x, foldedSetIterable iter X.env x = pure x := by intro _; rfl) :
    PS X (.Assign [.Name y py] (.ListComp elt [⟨tg, iter, ifs, 0⟩] scope pos) spos) (dS (bx X) (sSet i (dLcN (own.map (·.2)) it g c f))) := (ps_setLc hc hN hy hyl hsw hi ok hg ht he hs).to fun E τ H h => by
  obtain ⟨ι, σ, μ, fl, μ', R, e, k⟩ := h
  obtain ⟨⟨d, μ0⟩, e0, e⟩ := bind_some e
  cases e
  obtain ⟨⟨s, μ1⟩, e1, e⟩ := bind_some e0
  obtain ⟨⟨acc, μ2⟩, e2, e⟩ := bind_some e
  cases e
  refine goLc (Q := fun x H1 => gName i x τ H1 E.nx) hw ⟨ι, σ, μ, s, μ1, acc, μ2, R, e1, e2, fun p xs ι' H' F hz R' hn hx hr => ?_⟩
  obtain ⟨F2, R2, r2⟩ := lc_stored F hz R' hn hx hr
  exact k _ H' F2 _ (R2.set i r2)
end
end Dn
end

section
set_option maxRecDepth 100000
set_option maxHeartbeats 4000000
/-! Dn6: built-ins, methods of lists, stores, parallel and augmented assignments -/
namespace Dn
open PySem PySem.Spec PyProof.Rows L2
section
variable {X : Cx}
theorem Reps.one_inv {B : Kx} {ι : Ix} {H : Hp} {xs : List V} {d : D} (r : Reps B ι H xs [d]) : ∃ v, xs = [v] ∧ Rep B ι H v d := by
  cases r with | cons r1 r2 => cases r2; exact ⟨_, rfl, r1⟩
theorem Reps.two_inv {B : Kx} {ι : Ix} {H : Hp} {xs : List V} {d e : D} (r : Reps B ι H xs [d, e]) : ∃ v u, xs = [v, u] ∧ Rep B ι H v d ∧ Rep B ι H u e := by
  cases r with | cons r1 r2 => obtain ⟨u, rfl, r3⟩ := r2.one_inv; exact ⟨_, _, rfl, r1, r3⟩
theorem Reps.nil_inv {B : Kx} {ι : Ix} {H : Hp} {xs : List V} (r : Reps B ι H xs []) : xs = [] := by cases r; rfl

/-! ### built-ins -/
def gLen : List D → M D := fun ds μ => match ds with
  | [d] => (seqOf (pk d μ)).map fun xs => (.int (xs.length : Nat), μ)
  | _ => none
theorem c_len : CallR X (.builtin "len") (vA (bx X) gLen) := call_len_seq.to fun xs H Q h => by
  obtain ⟨ι, μ, ds, d, μ', S, r, e, k⟩ := h
  unfold gLen at e
  split at e
  · obtain ⟨v, rfl, rv⟩ := r.one_inv
    obtain ⟨ys, h1, h2⟩ := Option.map_eq_some_iff.mp e
    cases h2
    have q := pk_ok S rv
    generalize Dn.pk _ μ = c at q h1
    unfold seqOf at h1
    split at h1
    · cases h1
      obtain ⟨a, vs, rfl, hs, hr⟩ := q.list
      refine ⟨a, vs, rfl, .inl hs, ?_⟩
      rw [hr.length]
      exact k _ ι H (.refl ι H) S (.int _)
    · cases h1
      obtain ⟨a, vs, rfl, hs, hr⟩ := q.tup
      refine ⟨a, vs, rfl, .inr hs.sq, ?_⟩
      rw [hr.length]
      exact k _ ι H (.refl ι H) S (.int _)
    · cases h1
  · cases e
def gMax2 : List D → M D := fun ds μ => match ds with
  | [.int i, .int j] => some (.int (if j > i then j else i), μ)
  | _ => none
def gMin2 : List D → M D := fun ds μ => match ds with
  | [.int i, .int j] => some (.int (if j < i then j else i), μ)
  | _ => none
theorem c_max2 (hc : X.calm = true) : CallR X (.builtin "max") (vA (bx X) gMax2) := (call_max2 hc).to fun xs H Q h => by
  obtain ⟨ι, μ, ds, d, μ', S, r, e, k⟩ := h
  unfold gMax2 at e
  split at e
  · obtain ⟨v, u, rfl, r1, r2⟩ := r.two_inv
    cases r1; cases r2; cases e
    exact ⟨_, _, rfl, k _ ι H (.refl ι H) S (.int _)⟩
  · cases e
theorem c_min2 (hc : X.calm = true) : CallR X (.builtin "min") (vA (bx X) gMin2) := (call_min2 hc).to fun xs H Q h => by
  obtain ⟨ι, μ, ds, d, μ', S, r, e, k⟩ := h
  unfold gMin2 at e
  split at e
  · obtain ⟨v, u, rfl, r1, r2⟩ := r.two_inv
    cases r1; cases r2; cases e
    exact ⟨_, _, rfl, k _ ι H (.refl ι H) S (.int _)⟩
  · cases e
def gAbs : List D → M D := fun ds μ => match ds with
  | [.int i] => some (.int (if i < 0 then -i else i), μ)
  | _ => none
theorem c_abs : CallR X (.builtin "abs") (vA (bx X) gAbs) := call_abs.to fun xs H Q h => by
  obtain ⟨ι, μ, ds, d, μ', S, r, e, k⟩ := h
  unfold gAbs at e
  split at e
  · obtain ⟨v, rfl, r1⟩ := r.one_inv
    cases r1; cases e
    exact ⟨_, rfl, k _ ι H (.refl ι H) S (.int _)⟩
  · cases e
def gInt : List D → M D := fun ds μ => match ds with
  | [.int i] => some (.int i, μ)
  | _ => none
theorem c_int : CallR X (.type "int") (vA (bx X) gInt) := call_int1.to fun xs H Q h => by
  obtain ⟨ι, μ, ds, d, μ', S, r, e, k⟩ := h
  unfold gInt at e
  split at e
  · obtain ⟨v, rfl, r1⟩ := r.one_inv
    cases r1; cases e
    exact .inl ⟨_, rfl, k _ ι H (.refl ι H) S (.int _)⟩
  · cases e
/-- list(x), frozen or of the store; tuple(x) -/
def gList : List D → M D := fun ds μ => match ds with
  | [d] => (seqOf (pk d μ)).map fun xs => (.list xs, μ)
  | _ => none
def gListN : List D → M D := fun ds μ => match ds with
  | [d] => (seqOf (pk d μ)).map fun xs => (rf μ.length, μ ++ [.lst xs])
  | _ => none
def gTuple : List D → M D := fun ds μ => match ds with
  | [d] => (seqOf (pk d μ)).map fun xs => (.tuple xs, μ)
  | _ => none
theorem seq_pk {B : Kx} {ι : Ix} {H : Hp} {v : V} {c : D} {ys : List D} (q : Pk B ι H v c) (h : seqOf c = some ys) : ∃ a vs, v = .ref a ∧ (SqL B.K H a vs ∨ (TAt B ι H a vs)) ∧ Reps B ι H vs ys := by
  unfold seqOf at h
  split at h
  · cases h
    obtain ⟨a, vs, rfl, hs, hr⟩ := q.list
    exact ⟨a, vs, rfl, .inl hs, hr⟩
  · cases h
    obtain ⟨a, vs, rfl, hs, hr⟩ := q.tup
    exact ⟨a, vs, rfl, .inr hs, hr⟩
  · cases h
theorem c_list : CallR X (.type "list") (vA (bx X) gList) := call_list_of.to fun xs H Q h => by
  obtain ⟨ι, μ, ds, d, μ', S, r, e, k⟩ := h
  unfold gList at e
  split at e
  · obtain ⟨v, rfl, rv⟩ := r.one_inv
    obtain ⟨ys, h1, h2⟩ := Option.map_eq_some_iff.mp e
    cases h2
    obtain ⟨a, vs, rfl, hs, hr⟩ := seq_pk (pk_ok S rv) h1
    exact ⟨a, vs, rfl, hs.imp id TAt.sq, end_lst S hr k⟩
  · cases e
theorem c_listN : CallR X (.type "list") (vA (bx X) gListN) := call_list_of.to fun xs H Q h => by
  obtain ⟨ι, μ, ds, d, μ', S, r, e, k⟩ := h
  unfold gListN at e
  split at e
  · obtain ⟨v, rfl, rv⟩ := r.one_inv
    obtain ⟨ys, h1, h2⟩ := Option.map_eq_some_iff.mp e
    cases h2
    obtain ⟨a, vs, rfl, hs, hr⟩ := seq_pk (pk_ok S rv) h1
    exact ⟨a, vs, rfl, hs.imp id TAt.sq, end_new S hr k⟩
  · cases e
theorem c_tuple : CallR X (.type "tuple") (vA (bx X) gTuple) := call_tuple_of.to fun xs H Q h => by
  obtain ⟨ι, μ, ds, d, μ', S, r, e, k⟩ := h
  unfold gTuple at e
  split at e
  · obtain ⟨v, rfl, rv⟩ := r.one_inv
    obtain ⟨ys, h1, h2⟩ := Option.map_eq_some_iff.mp e
    cases h2
    obtain ⟨a, vs, rfl, hs, hr⟩ := seq_pk (pk_ok S rv) h1
    refine ⟨a, vs, rfl, ?_⟩
    rcases hs with hs | hs
    · exact .inl ⟨hs, end_tup S hr k⟩
    · exact .inr ⟨hs.sq, k _ ι H (.refl ι H) S (.tup hs hr)⟩
  · cases e
def intsOf : List D → Option (List Int)
  | [] => some []
  | .int i :: ds => (intsOf ds).map (i :: ·)
  | _ => none
theorem intsOf_rep {B : Kx} {ι : Ix} {H : Hp} : ∀ {ds : List D} {vs : List V} {ns : List Int}, intsOf ds = some ns → Reps B ι H vs ds → vs = ns.map V.int
  | [], _, _, e, r => by cases e; exact r.nil_inv
  | d :: ds, _, _, e, r => by
    cases r with
    | cons r1 r2 =>
      cases r1 <;> first
        | (unfold intsOf at e
           obtain ⟨ns, h1, h2⟩ := Option.map_eq_some_iff.mp e
           cases h2
           rw [intsOf_rep h1 r2]
           rfl)
        | cases e
def gSum1 : List D → M D := fun ds μ => match ds with
  | [d] => match pk d μ with
    | .list xs => (intsOf xs).map fun ns => (.int ns.sum, μ)
    | _ => none
  | _ => none
theorem c_sum1 (hc : X.calm = true) : CallR X (.builtin "sum") (vA (bx X) gSum1) := (cr_sum hc).to fun xs H Q h => by
  obtain ⟨ι, μ, ds, d, μ', S, r, e, k⟩ := h
  unfold gSum1 at e
  split at e
  · obtain ⟨v, rfl, rv⟩ := r.one_inv
    have q := pk_ok S rv
    generalize Dn.pk _ μ = c at q e
    split at e
    · obtain ⟨ns, h1, h2⟩ := Option.map_eq_some_iff.mp e
      cases h2
      obtain ⟨a, vs, rfl, hs, hr⟩ := q.list
      rw [intsOf_rep h1 hr] at hs
      exact ⟨a, ns, rfl, hs, k _ ι H (.refl ι H) S (.int _)⟩
    · cases e
  · cases e

/-! ### methods of lists of the store -/
def dML (g : D → List D → M D) (f : Den) (r : DenL) : Den := fun σ μ => (f σ μ).bind fun p => match px p.1 p.2 with
  | .list _ => (r σ p.2).bind fun q => g p.1 q.1 q.2
  | _ => none
variable {o e : Expr} {es : List Expr} {fo : Den} {r : DenL} {apos cpos : Pos} {name : Str} {id : String}
theorem goML {B : Kx} {g : D → List D → M D} {τ : L2.St} {H : Hp} {Q : VK} (h : dE B (dML g fo r) τ H Q) : tBM B.K "list" (vM B g) (dE B fo) (dA B r) τ H Q := by
  obtain ⟨ι, σ, μ, d, μ', R, e, k⟩ := h
  obtain ⟨⟨d1, μ1⟩, e1, e⟩ := bind_some e
  dsimp only at e
  split at e
  · rename_i ys hy
    obtain ⟨⟨ds, μ2⟩, e2, e⟩ := bind_some e
    refine ⟨ι, σ, μ, d1, μ1, R, e1, fun x ι1 H1 F1 R1 r1 => ?_⟩
    obtain ⟨a, vs, rfl, hs, hr⟩ := (hy ▸ px_ok R1.sr r1 : Px _ _ _ _ (.list ys)).list
    refine ⟨.inl ⟨rfl, vs, sq_of hs⟩, ι1, σ, μ1, ds, μ2, R1, e2, fun xs ι2 H2 F2 R2 r2 => ?_⟩
    exact ⟨ι2, μ2, d1, ds, d, μ', R2.sr, r1.mono F2, r2, e, fun v ι3 H3 F3 S3 r3 => k v ι3 H3 ((F1.trans F2).trans F3) (R2.mono F3 S3) r3⟩
  · cases e
theorem e_lm {g : D → List D → M D} (slot : Slot "list" name id) (hty : typeOf (.builtin id) = pure (.type "method_descriptor")) (hm : MtR X id (vM (bx X) g)) (ho : PE X o (dE (bx X) fo)) (ha : PA X (e :: es) (dA (bx X) r))
    (hbase : attributeBase o name X.env (eval o X.env) = eval o X.env := by rfl)
    (hfew : ((backTo cpos (starEach (e :: es) X.env)).all (fun x => !x.1) && (backToKw cpos (keywordEach [] X.env)).all (fun x => x.1.isSome)
      && decide ((e :: es).length + ([] : List Keyword).length + (if ([] : List Keyword).isEmpty then 0 else 1) < 30)) = true := by rfl)
    (hline : (apos.endLine == cpos.line) = true := by rfl) (hs : starEach (e :: es) X.env = (false, eval e X.env) :: starEach es X.env := by rfl) (hplain : (backTo cpos (starEach es X.env)).any (·.1) = false := by rfl) :
    PE X (.Call (.Attribute o name apos) (e :: es) [] cpos) (dE (bx X) (dML g fo r)) := (pe_bm PySem.F.plainAttrs_list slot hty hm ho ha hbase hfew hline hs hplain).to fun _ _ _ h => goML h
def dML0 (g : D → List D → M D) (f : Den) : Den := fun σ μ => (f σ μ).bind fun p => match px p.1 p.2 with
  | .list _ => g p.1 [] p.2
  | _ => none
theorem e_lm0 {g : D → List D → M D} (slot : Slot "list" name id) (hty : typeOf (.builtin id) = pure (.type "method_descriptor")) (hm : MtR X id (vM (bx X) g)) (ho : PE X o (dE (bx X) fo))
    (hbase : attributeBase o name X.env (eval o X.env) = eval o X.env := by rfl) (hline : (apos.endLine == cpos.line) = true := by rfl) :
    PE X (.Call (.Attribute o name apos) [] [] cpos) (dE (bx X) (dML0 g fo)) := (pe_bm0 PySem.F.plainAttrs_list slot hty hm ho hbase hline).to fun τ H Q h => by
  obtain ⟨ι, σ, μ, d, μ', R, e, k⟩ := h
  obtain ⟨⟨d1, μ1⟩, e1, e⟩ := bind_some e
  dsimp only at e
  split at e
  · rename_i ys hy
    refine ⟨ι, σ, μ, d1, μ1, R, e1, fun x ι1 H1 F1 R1 r1 => ?_⟩
    obtain ⟨a, vs, rfl, hs, hr⟩ := (hy ▸ px_ok R1.sr r1 : Px _ _ _ _ (.list ys)).list
    refine ⟨.inl ⟨rfl, vs, sq_of hs⟩, ?_⟩
    exact ⟨ι1, μ1, d1, [], d, μ', R1.sr, r1, .nil, e, fun v ι3 H3 F3 S3 r3 => k v ι3 H3 (F1.trans F3) (R1.mono F3 S3) r3⟩
  · cases e
/-- a list of the store is written -/
theorem wr_lst {B : Kx} {ι : Ix} {μ : Sto} {H : Hp} {Q : VK} {n : Nat} {a : Addr} {xs : List V} {ds : List D} {v : V} {d : D} (S : SR B ι μ H) (hn : ι.a[n]? = some a) (r : Reps B ι H xs ds) (rv : Rep B ι (upd H a (.lst xs)) v d)
    (k : ∀ v ι' H', Fra ι ι' H H' → SR B ι' (μ.set n (.lst ds)) H' → Rep B ι' H' v d → Q v H') : Q v (upd H a (.lst xs)) :=
  k v ι _ (fra_write S hn) (S.write hn ⟨xs, upd_same, r.mono (fra_write S hn)⟩) rv
def lstAt (x : D) (μ : Sto) : Option (Nat × List D) := match asRf x with
  | some n => match μ[n]? with
    | some (.lst xs) => some (n, xs)
    | _ => none
  | none => none
theorem lstAt_ok {B : Kx} {ι : Ix} {μ : Sto} {H : Hp} {v : V} {x : D} {n : Nat} {ds : List D} (S : SR B ι μ H) (r : Rep B ι H v x) (h : lstAt x μ = some (n, ds)) : ∃ a vs, v = .ref a ∧ ι.a[n]? = some a ∧ H a = some (.lst vs) ∧ Reps B ι H vs ds := by
  unfold lstAt at h
  split at h
  · rename_i m hm
    split at h
    · rename_i ys hy
      cases h
      have e := asRf_some hm
      subst e
      obtain ⟨a, h1, h2, vs, h3, h4⟩ := S.at r hy
      exact ⟨a, vs, h1, h2, h3, h4⟩
    · cases h
  · cases h
def gAppend : D → List D → M D := fun x ds μ => match lstAt x μ, ds with
  | some (n, xs), [d] => if xs.length < lim then some (.none, μ.set n (.lst (xs ++ [d]))) else none
  | _, _ => none
theorem m_append : MtR X "list.append" (vM (bx X) gAppend) := (show MtR X "list.append" rAppend from mt_append).to fun x xs H Q h => by
  obtain ⟨ι, μ, dx, ds, d, μ', S, rx, rs, e, k⟩ := h
  unfold gAppend at e
  split at e
  · rename_i n ys d' hn
    obtain ⟨v, rfl, rv⟩ := rs.one_inv
    obtain ⟨a, vs, rfl, ha, hH, hr⟩ := lstAt_ok S rx hn
    split at e
    · rename_i hl
      cases e
      exact ⟨a, vs, v, rfl, rfl, hH, by rw [hr.length]; exact lim_lt hl, wr_lst S ha (hr.append (.one rv)) .non k⟩
    · cases e
  · cases e
def gInsert : D → List D → M D := fun x ds μ => match lstAt x μ, ds with
  | some (n, xs), [.int i, d] => if xs.length < lim ∧ 0 ≤ i ∧ i < 2 ^ 63 then some (.none, μ.set n (.lst (xs.take i.toNat ++ [d] ++ xs.drop i.toNat))) else none
  | _, _ => none
theorem m_insert : MtR X "list.insert" (vM (bx X) gInsert) := mt_insert.to fun x xs H Q h => by
  obtain ⟨ι, μ, dx, ds, d, μ', S, rx, rs, e, k⟩ := h
  unfold gInsert at e
  split at e
  · rename_i n ys i d' hn
    obtain ⟨v, u, rfl, rv, ru⟩ := rs.two_inv
    obtain ⟨a, vs, rfl, ha, hH, hr⟩ := lstAt_ok S rx hn
    split at e
    · rename_i hl
      cases e
      cases rv
      exact ⟨a, vs, _, u, rfl, rfl, hH, by rw [hr.length]; exact lim_lt hl.1, hl.2.1, hl.2.2, wr_lst S ha (((hr.take _).append (.one ru)).append (hr.drop _)) .non k⟩
    · cases e
  · cases e
def gPop : D → List D → M D := fun x ds μ => match lstAt x μ, ds with
  | some (n, xs), [] => match xs[xs.length - 1]? with
    | some d => some (d, μ.set n (.lst xs.dropLast))
    | none => none
  | _, _ => none
theorem Reps.dropLast {B : Kx} {ι : Ix} {H : Hp} {vs : List V} {ds : List D} (r : Reps B ι H vs ds) : Reps B ι H vs.dropLast ds.dropLast := by
  rw [List.dropLast_eq_take, List.dropLast_eq_take, r.length]
  exact r.take _
theorem m_pop : MtR X "list.pop" (vM (bx X) gPop) := (show MtR X "list.pop" rPop from mt_pop).to fun x xs H Q h => by
  obtain ⟨ι, μ, dx, ds, d, μ', S, rx, rs, e, k⟩ := h
  unfold gPop at e
  split at e
  · rename_i n ys hn
    have := rs.nil_inv
    subst this
    obtain ⟨a, vs, rfl, ha, hH, hr⟩ := lstAt_ok S rx hn
    split at e
    · rename_i d' hd
      cases e
      obtain ⟨v, hv, rv⟩ := hr.get hd
      exact ⟨a, vs, v, rfl, rfl, hH, by rw [hr.length]; exact hv, wr_lst S ha hr.dropLast (rv.mono (fra_write S ha)) k⟩
    · cases e
  · cases e
def gPopAt : D → List D → M D := fun x ds μ => match lstAt x μ, ds with
  | some (n, xs), [.int i] => if -(2 ^ 63) ≤ i ∧ i < 2 ^ 63 then match seqIndex? i xs.length with
    | some j => match xs[j]? with
      | some d => some (d, μ.set n (.lst (xs.eraseIdx j)))
      | none => none
    | none => none
    else none
  | _, _ => none
theorem m_popAt : MtR X "list.pop" (vM (bx X) gPopAt) := (show MtR X "list.pop" rPopAt from mt_popAt).to fun x xs H Q h => by
  obtain ⟨ι, μ, dx, ds, d, μ', S, rx, rs, e, k⟩ := h
  unfold gPopAt at e
  split at e
  · rename_i n ys i hn
    obtain ⟨v, rfl, rv⟩ := rs.one_inv
    cases rv
    obtain ⟨a, vs, rfl, ha, hH, hr⟩ := lstAt_ok S rx hn
    split at e
    · rename_i hl
      split at e
      · rename_i j hj
        split at e
        · rename_i d' hd
          cases e
          obtain ⟨v, hv, rv⟩ := hr.get hd
          exact ⟨a, vs, i, j, v, rfl, rfl, hH, hl.1, hl.2, by rw [hr.length]; exact hj, hv, wr_lst S ha (hr.erase j) (rv.mono (fra_write S ha)) k⟩
        · cases e
      · cases e
    · cases e
  · cases e
def gExtend : D → List D → M D := fun x ds μ => match lstAt x μ, ds with
  | some (n, xs), [d] => match px d μ with
    | .list ys => if xs.length + ys.length ≤ lim then some (.none, μ.set n (.lst (xs ++ ys))) else none
    | _ => none
  | _, _ => none
theorem m_extend : MtR X "list.extend" (vM (bx X) gExtend) := (show MtR X "list.extend" rExtend from mt_extend).to fun x xs H Q h => by
  obtain ⟨ι, μ, dx, ds, d, μ', S, rx, rs, e, k⟩ := h
  unfold gExtend at e
  split at e
  · rename_i n ys d' hn
    obtain ⟨v, rfl, rv⟩ := rs.one_inv
    obtain ⟨a, vs, rfl, ha, hH, hr⟩ := lstAt_ok S rx hn
    have q := px_ok S rv
    generalize Dn.px d' μ = c at q e
    split at e
    · split at e
      · rename_i hl
        cases e
        obtain ⟨b, us, rfl, hb, hrb⟩ := q.list
        exact ⟨a, b, vs, us, rfl, rfl, hH, hb, by rw [hr.length, hrb.length]; exact lim_sz hl, wr_lst S ha (hr.append hrb) .non k⟩
      · cases e
    · cases e
  · cases e

/-! ### xs[i] = v -/
variable {v i : Expr} {fv fi : Den} {pos tpos : Pos}
def gSetL (x i v : D) (μ : Sto) : Option Sto := match lstAt x μ, i with
  | some (n, xs), .int j => (ixN xs.length j).map fun k => μ.set n (.lst (xs.set k v))
  | _, _ => none
def sSetIx (fv fo fi : Den) (g : D → D → D → Sto → Option Sto) : SDen := fun σ μ => (fv σ μ).bind fun p => (fo σ p.2).bind fun q => (fi σ q.2).bind fun r => (g q.1 r.1 p.1 r.2).bind fun μ' => some (.nx σ, μ')
def vSet (B : Kx) (g : D → D → D → Sto → Option Sto) : TSet := fun o i v H Q => ∃ ι μ dO di dv μ', SR B ι μ H ∧ Rep B ι H o dO ∧ Rep B ι H i di ∧ Rep B ι H v dv ∧ g dO di dv μ = some μ' ∧
  ∀ ι' H', Fra ι ι' H H' → SR B ι' μ' H' → Q H'
theorem s_setIx {g : D → D → D → Sto → Option Sto} (hv : PE X v (dE (bx X) fv)) (ho : PE X o (dE (bx X) fo)) (hi : PE X i (dE (bx X) fi)) (hset : PSet X (vSet (bx X) g))
    (ha : ∀ v, assign (.Subscript o i tpos) X.env v = (do
      let ov ← holding [v] (eval o X.env)
      let iv ← holding [v, ov] (eval i X.env)
      standAt tpos
      holding [v, ov, iv] (setItem ov iv v)
      release [v, ov, iv] []) := by intro _; rfl)
    (hs : swapsWithSole [.Subscript o i tpos] v pos.line X.env = pure false := by rfl) (hw : swappedStores [.Subscript o i tpos] v X.env = pure none := by rfl)
    (h1 : (assignEach [.Subscript o i tpos] X.env).map (·.2) = [assign (.Subscript o i tpos) X.env] := by rfl) :
    PS X (.Assign [.Subscript o i tpos] v pos) (dS (bx X) (sSetIx fv fo fi g)) := (ps_asg hv (pg_sub ho hi hset ha) hs hw h1).to fun E τ H h => by
  obtain ⟨ι, σ, μ, fl, μ', R, e, k⟩ := h
  obtain ⟨⟨d1, μ1⟩, e1, e⟩ := bind_some e
  obtain ⟨⟨d2, μ2⟩, e2, e⟩ := bind_some e
  obtain ⟨⟨d3, μ3⟩, e3, e⟩ := bind_some e
  obtain ⟨μ4, e4, e⟩ := bind_some e
  cases e
  refine ⟨ι, σ, μ, d1, μ1, R, e1, fun x ι1 H1 F1 R1 r1 => ⟨ι1, σ, μ1, d2, μ2, R1, e2, fun y ι2 H2 F2 R2 r2 => ⟨ι2, σ, μ2, d3, μ3, R2, e3, fun z ι3 H3 F3 R3 r3 => ?_⟩⟩⟩
  exact ⟨ι3, μ3, d2, d3, d1, _, R3.sr, r2.mono F3, r3, (r1.mono F2).mono F3, e4, fun ι4 H4 F4 S4 => k ι4 H4 (((F1.trans F2).trans F3).trans F4) τ (R3.mono F4 S4)⟩
theorem t_setL : PSet X (vSet (bx X) gSetL) := fun pins s τ H o i v ov iv u Q I ro ri rv h => set_list pins s τ H o i v ov iv u Q I ro ri rv (by
  obtain ⟨ι, μ, dO, di, dv, μ', S, r1, r2, r3, e, k⟩ := h
  unfold gSetL at e
  split at e
  · rename_i n xs j hn
    obtain ⟨a, vs, rfl, ha, hH, hr⟩ := lstAt_ok S r1 hn
    cases r2
    obtain ⟨m, h1, h2⟩ := Option.map_eq_some_iff.mp e
    cases h2
    refine ⟨a, vs, j, m, rfl, rfl, hH, by rw [hr.length]; exact h1, ?_⟩
    exact k ι _ (fra_write S ha) (S.write ha ⟨_, upd_same, (hr.set r3 m).mono (fra_write S ha)⟩)
  · cases e)

/-! ### a, b = x, y; x += y -/
def sPar (i j : Nat) (r : DenL) : SDen := fun σ μ => (r σ μ).bind fun p => match p.1 with
  | [a, b] => some (.nx ((σ.set i (some a)).set j (some b)), p.2)
  | _ => none
theorem s_par {i j : Nat} {x y : Str} {a b : Expr} {px py pt : Pos} {kt k2 pt2} (hc : X.calm = true) (hN : X.N.Nodup) (hi : X.N[i]? = some x) (hj : X.N[j]? = some y) (hij : i ≠ j)
    (hx : X.env.scope.names.lookup x = some .local) (hy : X.env.scope.names.lookup y = some .local) (ha : PA X [a, b] (dA (bx X) r))
    (hw : swappedStores [.Tuple [.Name x px, .Name y py] kt pt] (.Tuple [a, b] k2 pt2) X.env = pure (some [x, y]))
    (hs : swapsWithSole [.Tuple [.Name x px, .Name y py] kt pt] (.Tuple [a, b] k2 pt2) pos.line X.env = pure false := by rfl) :
    PS X (.Assign [.Tuple [.Name x px, .Name y py] kt pt] (.Tuple [a, b] k2 pt2) pos) (dS (bx X) (sPar i j r)) := (ps_par hc hN hi hj hij hx hy ha hw hs).to fun E τ H h => by
  obtain ⟨ι, σ, μ, fl, μ', R, e, k⟩ := h
  obtain ⟨⟨ds, μ1⟩, e1, e⟩ := bind_some e
  refine ⟨ι, σ, μ, ds, μ1, R, e1, fun xs ι1 H1 F1 R1 r1 => ?_⟩
  dsimp only at e
  split at e
  · cases e
    obtain ⟨v, u, rfl, rv, ru⟩ := r1.two_inv
    exact ⟨v, u, rfl, k ι1 H1 F1 _ ((R1.set i rv).set j ru)⟩
  · cases e
def sPar3 (i j l : Nat) (r : DenL) : SDen := fun σ μ => (r σ μ).bind fun p => match p.1 with
  | [a, b, c] => some (.nx (((σ.set i (some a)).set j (some b)).set l (some c)), p.2)
  | _ => none
theorem s_par3 {i j l : Nat} {x y z : Str} {a b c : Expr} {px py pz pt : Pos} {kt k2 pt2} (hc : X.calm = true) (hN : X.N.Nodup) (hi : X.N[i]? = some x) (hj : X.N[j]? = some y) (hl : X.N[l]? = some z) (hij : i ≠ j) (hil : i ≠ l) (hjl : j ≠ l)
    (hx : X.env.scope.names.lookup x = some .local) (hy : X.env.scope.names.lookup y = some .local) (hz : X.env.scope.names.lookup z = some .local) (ha : PA X [a, b, c] (dA (bx X) r))
    (hw : swappedStores [.Tuple [.Name x px, .Name y py, .Name z pz] kt pt] (.Tuple [a, b, c] k2 pt2) X.env = pure (some [x, y, z]))
    (hs : swapsWithSole [.Tuple [.Name x px, .Name y py, .Name z pz] kt pt] (.Tuple [a, b, c] k2 pt2) pos.line X.env = pure false := by rfl) :
    PS X (.Assign [.Tuple [.Name x px, .Name y py, .Name z pz] kt pt] (.Tuple [a, b, c] k2 pt2) pos) (dS (bx X) (sPar3 i j l r)) := (ps_par3 hc hN hi hj hl hij hil hjl hx hy hz ha hw hs).to fun E τ H h => by
  obtain ⟨ι, σ, μ, fl, μ', R, e, k⟩ := h
  obtain ⟨⟨ds, μ1⟩, e1, e⟩ := bind_some e
  refine ⟨ι, σ, μ, ds, μ1, R, e1, fun xs ι1 H1 F1 R1 r1 => ?_⟩
  dsimp only at e
  split at e
  · cases e
    cases r1 with
    | cons rt r1 =>
      obtain ⟨v, u, rfl, rv, ru⟩ := r1.two_inv
      exact ⟨_, v, u, rfl, k ι1 H1 F1 _ (((R1.set i rt).set j rv).set l ru)⟩
  · cases e
/-- a name op= e: gIp gives the new value -/
def sAug (i : Nat) (g : D → D → M D) (f : Den) : SDen := fun σ μ => match σ[i]? with
  | some (some d) => (f σ μ).bind fun p => (g d p.1 p.2).bind fun q => some (.nx (σ.set i (some q.1)), q.2)
  | _ => none
theorem s_aug {i : Nat} {x : Str} {op : Operator} {g : D → D → M D} {pos' : Pos} (hN : X.N.Nodup) (hi : X.N[i]? = some x) (hx : Loc X.env.scope x) (he : PE X e (dE (bx X) fo)) (ho : OpR X (inplaceOp op) (v2 (bx X) g)) (hf : X.fn x = true ∨ X.env.scope.names.lookup x = some .local := by first | exact .inl rfl | exact .inr rfl | assumption) :
    PS X (.AugAssign (.Name x pos') op e pos) (dS (bx X) (sAug i g fo)) := (ps_aug hN hi hx he ho hf).to fun E τ H h => by
  obtain ⟨ι, σ, μ, fl, μ', R, e, k⟩ := h
  unfold sAug at e
  split at e
  · rename_i d hd
    obtain ⟨v, hv, rv⟩ := R.slot i d hd
    obtain ⟨⟨d1, μ1⟩, e1, e⟩ := bind_some e
    obtain ⟨⟨d2, μ2⟩, e2, e⟩ := bind_some e
    cases e
    refine ⟨v, hv, ι, σ, μ, d1, μ1, R, e1, fun y ι1 H1 F1 R1 r1 => ?_⟩
    exact ⟨ι1, μ1, d, d1, d2, _, R1.sr, rv.mono F1, r1, e2, fun z ι2 H2 F2 S2 r2 => k ι2 H2 (F1.trans F2) _ ((R1.mono F2 S2).set i r2)⟩
  · cases e
def gIadd : D → D → M D := fun a b μ => match a, b with
  | .int i, .int j => some (.int (i + j), μ)
  | _, _ => match lstAt a μ, px b μ with
    | some (n, xs), .list ys => if xs.length + ys.length ≤ lim then some (a, μ.set n (.lst (xs ++ ys))) else none
    | _, _ => none
theorem ip_iadd : OpR X (inplaceOp .Add) (v2 (bx X) gIadd) := (OpR.or (show OpR X (inplaceOp .Add) (ipI fun i j => i + j) from ip_add) iop_ext).to fun x y H Q h => by
  obtain ⟨ι, μ, dx, dy, d, μ', S, rx, ry, e, k⟩ := h
  unfold gIadd at e
  split at e
  · cases rx; cases ry; cases e
    exact .inl ⟨_, _, rfl, rfl, k _ ι H (.refl ι H) S (.int _)⟩
  · have q := px_ok S ry
    generalize Dn.px dy μ = c at q e
    split at e
    · rename_i n xs ys hn
      split at e
      · rename_i hl
        cases e
        obtain ⟨a, vs, rfl, ha, hH, hr⟩ := lstAt_ok S rx hn
        obtain ⟨b, us, rfl, hb, hrb⟩ := q.list
        exact .inr ⟨a, b, vs, us, rfl, rfl, hH, hb, by rw [hr.length, hrb.length]; exact lim_sz hl, wr_lst S ha (hr.append hrb) (rx.mono (fra_write S ha)) k⟩
      · cases e
    · cases e
end
end Dn
end

section
set_option maxRecDepth 100000
set_option maxHeartbeats 4000000
/-! Dn7: slices by steps, sum from a start -/
namespace Dn
open PySem PySem.Spec PyProof.Rows L2 HT

/-! ### xs[lo:hi:st] -/
section
variable {prog : Program} {w : World} {A : Around} {E : Value → Shared → Prop} {s : Shared}
def stepLo (n : Nat) (lo hi : Option Int) (st : Int) : Int := (Builtin.Slice.sliceAdjust lo hi st (n : Int)).1
def stepN (n : Nat) (lo hi : Option Int) (st : Int) : Nat := Builtin.Slice.slicePlaces (stepLo n lo hi st) (Builtin.Slice.sliceAdjust lo hi st (n : Int)).2 st
/-- the items -/
def stepD {α : Type} (xs : List α) (lo hi : Option Int) (st : Int) : List α := (List.range (stepN xs.length lo hi st)).filterMap fun (k : Nat) => xs[(stepLo xs.length lo hi st + (k : Int) * st).toNat]?
theorem applied_step {sl : Addr} {vl vu vs : Value} {lo hi : Option Int} {st : Int} {n : Nat} {Q : Int × Int × Nat → Shared → Prop} (hs : s.heap.IsSliceOf sl vl vu vs) (pl : IsPart vl lo) (pu : IsPart vu hi) (ps : IsPart vs (some st)) (h0 : st ≠ 0)
    (h : Q (stepLo n lo hi st, st, stepN n lo hi st) s) : wpAny (model prog w) A (Builtin.Slice.sliceApplied (.ref sl) (pure (n : Int))) Q E s := by
  obtain ⟨os, hos, hcs, hds⟩ := id hs
  unfold Builtin.Slice.sliceApplied Builtin.Slice.sliceFields
  refine wpAny_bind (wpAny_bind (wpAny_field hos hds (x := vl) rfl (wpAny_bind (wpAny_field hos hds (x := vu) rfl (wpAny_bind (wpAny_field hos hds (x := vs) rfl (wpAny_pure ?_)))))))
  refine wpAny_bind (slicePart_ ps ?_)
  have h1 : ¬ ((st == 0) = true) := by simpa using h0
  show wpAny _ _ (if (st == 0) = true then _ else _) _ _ s
  rw [if_neg h1]
  refine wpAny_bind (slicePart_ pl (wpAny_bind (slicePart_ pu (wpAny_bind (wpAny_pure ?_)))))
  exact wpAny_pure h
theorem getItem_tup_step {t sl : Addr} {items : List Value} {vl vu vs : Value} {lo hi : Option Int} {st : Int} {Q : Value → Shared → Prop} (ht : IsTup s.heap t items.toArray) (hs : s.heap.IsSliceOf sl vl vu vs) (pl : IsPart vl lo) (pu : IsPart vu hi) (ps : IsPart vs (some st))
    (h0 : st ≠ 0) (h1 : st ≠ 1) (hsz : (stepD items lo hi st).length ≤ sizeLine)
    (h : Q (.ref s.heap.objs.size) { s with heap := s.heap.push { cls := .type "tuple", data := .seq (stepD items lo hi st).toArray } }) : wpAny (model prog w) A (getItem (.ref t) (.ref sl)) Q E s := by
  obtain ⟨os, hos, hcs, hds⟩ := id hs
  have hTs : s.TypeIs (.ref sl) "slice" := ⟨os, hos, hcs⟩
  unfold getItem
  try with_reducible refine wpAny_holding ?_
  first | refine wpAny_bind (wpAny_pure ?_) | skip
  refine wpAny_bind (wpAny_sequenceKey ht.typeIs (by decide) ?_)
  refine wpAny_bind (wpAny_callSpecial?_slot (name := Str.ofString "__getitem__") ht.typeIs PyProof.Rows.slot_tuple_getitem
    (wpAny_call_entry PyProof.Rows.slot_tuple_getitem ht.typeIs entry_tuple_getitem ?_ (args_tuple_getitem _ _)))
  show wpAny _ _ (Builtin.Tuple.tupleItemsOf (.ref t) >>= _) _ _ s
  refine wpAny_bind (tupleItemsOf_ ht ?_)
  refine wpAny_bind (wpAny_typeOf hTs ?_)
  rw [if_pos (by decide)]
  refine wpAny_bind (applied_step (n := items.toArray.size) hs pl pu ps h0 ?_)
  have hno : ¬ ((stepLo items.toArray.size lo hi st == 0 && st == 1 && stepN items.toArray.size lo hi st == items.toArray.size) = true) := by
    intro q
    rw [Bool.and_eq_true, Bool.and_eq_true] at q
    exact h1 (eq_of_beq q.1.2)
  show wpAny _ _ (if (stepLo items.toArray.size lo hi st == 0 && st == 1 && stepN items.toArray.size lo hi st == items.toArray.size) = true then _ else _) _ _ s
  rw [if_neg hno]
  have e : ((List.range (stepN items.toArray.size lo hi st)).filterMap fun (k : Nat) => items.toArray[(stepLo items.toArray.size lo hi st + (k : Int) * st).toNat]?) = stepD items lo hi st := by
    unfold stepD
    simp
  rw [e]
  have htake : sizeOk (.seq (stepD items lo hi st).toArray) := by
    show (stepD items lo hi st).toArray.size ≤ sizeLine
    rw [List.size_toArray]
    exact hsz
  first
    | exact wpAny_bind (m := Builtin.Tuple.tupleExact _) (wpAny_newObj_type (wpAny_pure ⟨_, rfl, wpAny_pure h⟩) htake)
    | exact wpAny_bind (m := Builtin.Tuple.tupleExact _) (wpAny_newObj_type (wpAny_bind (wpAny_pure (wpAny_pure ⟨_, rfl, wpAny_pure h⟩))) htake)
    | exact wpAny_bind (wpAny_bind (m := Builtin.Tuple.tupleExact _) (wpAny_newObj_type (wpAny_pure (wpAny_pure ⟨_, rfl, wpAny_pure h⟩)) htake))
    | exact wpAny_bind (wpAny_bind (m := Builtin.Tuple.tupleExact _) (wpAny_newObj_type (wpAny_pure ⟨_, rfl, wpAny_pure h⟩) htake))
end
theorem filterMap_vals : ∀ {xs : List V} {us : List Value} (l : List Nat) (f : Nat → Nat), Vals xs us → Vals (l.filterMap fun (k : Nat) => xs[f k]?) (l.filterMap fun (k : Nat) => us[f k]?)
  | _, _, [], _, _ => .nil
  | xs, us, k :: l, f, r => by
    have ih := filterMap_vals l f r
    cases e : xs[f k]? with
    | none =>
      rw [List.filterMap_cons_none (f := fun k : Nat => xs[f k]?) e, List.filterMap_cons_none (f := fun k : Nat => us[f k]?) (r.none_of e)]
      exact ih
    | some v =>
      obtain ⟨u, hu, ru⟩ := r.get e
      rw [List.filterMap_cons_some (f := fun k : Nat => xs[f k]?) e, List.filterMap_cons_some (f := fun k : Nat => us[f k]?) hu]
      exact .cons ru ih
theorem filterMap_reps {B : Kx} {ι : Ix} {H : Hp} : ∀ {xs : List V} {us : List D} (l : List Nat) (f : Nat → Nat), Reps B ι H xs us → Reps B ι H (l.filterMap fun (k : Nat) => xs[f k]?) (l.filterMap fun (k : Nat) => us[f k]?)
  | _, _, [], _, _ => .nil
  | xs, us, k :: l, f, r => by
    have ih := filterMap_reps l f r
    cases e : xs[f k]? with
    | none =>
      have : us[f k]? = none := by
        have h1 := List.getElem?_eq_none_iff.mp e
        rw [r.length] at h1
        exact List.getElem?_eq_none_iff.mpr h1
      rw [List.filterMap_cons_none (f := fun k : Nat => xs[f k]?) e, List.filterMap_cons_none (f := fun k : Nat => us[f k]?) this]
      exact ih
    | some v =>
      obtain ⟨u, hu, ru⟩ := r.getV e
      rw [List.filterMap_cons_some (f := fun k : Nat => xs[f k]?) e, List.filterMap_cons_some (f := fun k : Nat => us[f k]?) hu]
      exact .cons ru ih
theorem stepD_reps {B : Kx} {ι : Ix} {H : Hp} {xs : List V} {ds : List D} (r : Reps B ι H xs ds) (lo hi : Option Int) (st : Int) : Reps B ι H (stepD xs lo hi st) (stepD ds lo hi st) := by
  unfold stepD
  rw [r.length]
  exact filterMap_reps _ _ r
def gStep (lo hi : Option Int) (st : Int) : D → M D := fun a μ => match pk a μ with
  | .tuple xs => if st ≠ 0 ∧ st ≠ 1 ∧ (stepD xs lo hi st).length ≤ lim then some (.tuple (stepD xs lo hi st), μ) else none
  | _ => none
def dStep (f : Den) (lo hi st : DenO) : Den := fun σ μ => (f σ μ).bind fun p => (lo σ p.2).bind fun l => (hi σ l.2).bind fun h => (st σ h.2).bind fun t => match t.1 with
  | some k => gStep l.1 h.1 k p.1 t.2
  | none => none
section
variable {X : Cx} {a st : Expr} {fa : Den} {lo hi : Option Expr} {flo fhi fst : DenO} {p2 pos : Pos}
theorem e_step (ha : PE X a (dE (bx X) fa)) (hl : PO X lo (dO (bx X) flo)) (hh : PO X hi (dO (bx X) fhi)) (ht : PO X (some st) (dO (bx X) fst))
    (hs : ∀ o i, subscripted (.Slice lo hi (some st) p2) false o i = operate [o, i] (getItem o i) := by intros; rfl) :
    PE X (.Subscript a (.Slice lo hi (some st) p2) pos) (dE (bx X) (dStep fa flo fhi fst)) := by
  refine ⟨fun pins s τ H Q I h => ?_⟩
  obtain ⟨ι, σ, μ, d, μ', R, e, k⟩ := h
  obtain ⟨⟨d1, μ1⟩, e1, e⟩ := bind_some e
  obtain ⟨⟨l, μ2⟩, e2, e⟩ := bind_some e
  obtain ⟨⟨u, μ3⟩, e3, e⟩ := bind_some e
  obtain ⟨⟨t, μ4⟩, e4, e⟩ := bind_some e
  dsimp only at e
  split at e
  · rename_i c
    refine Subscript_ (thn (ha.run pins s τ H (fun x H1 => ∃ ι1, Fra ι ι1 H H1 ∧ Rel (bx X) ι1 σ μ1 τ H1 ∧ Rep (bx X) ι1 H1 x d1) I ⟨ι, σ, μ, d1, μ1, R, e1, fun v ι1 H1 F1 R1 r1 => ⟨ι1, F1, R1, r1⟩⟩) fun v s1 ⟨x, H1, I1, rx, ι1, F1, R1, r1⟩ => ?_)
    refine wpAny_Slice (thn (hl.run pins s1 τ H1 (fun o H2 => o = l ∧ ∃ ι2, Fra ι1 ι2 H1 H2 ∧ Rel (bx X) ι2 σ μ2 τ H2) I1 ⟨ι1, σ, μ1, l, μ2, R1, e2, fun ι2 H2 F2 R2 => ⟨rfl, ι2, F2, R2⟩⟩) fun vl s2 ⟨o2, H2, I2, pl, eo2, ι2, F2, R2⟩ => ?_)
    subst eo2
    refine thn (hh.run pins s2 τ H2 (fun o H3 => o = u ∧ ∃ ι3, Fra ι2 ι3 H2 H3 ∧ Rel (bx X) ι3 σ μ3 τ H3) I2 ⟨ι2, σ, μ2, u, μ3, R2, e3, fun ι3 H3 F3 R3 => ⟨rfl, ι3, F3, R3⟩⟩) fun vu s3 ⟨o3, H3, I3, pu, eo3, ι3, F3, R3⟩ => ?_
    subst eo3
    refine thn (ht.run pins s3 τ H3 (fun o H4 => o = some c ∧ ∃ ι4, Fra ι3 ι4 H3 H4 ∧ Rel (bx X) ι4 σ μ4 τ H4) I3 ⟨ι3, σ, μ3, some c, μ4, R3, e4, fun ι4 H4 F4 R4 => ⟨rfl, ι4, F4, R4⟩⟩) fun vs s4 ⟨o4, H4, I4, ps, eo4, ι4, F4, R4⟩ => ?_
    subst eo4
    have r4 := ((r1.mono F2).mono F3).mono F4
    have q := pk_ok R4.sr r4
    unfold gStep at e
    generalize Dn.pk d1 μ4 = b at q e
    split at e
    · rename_i ds
      split at e
      · rename_i hc
        cases e
        obtain ⟨a', xs, rfl, hT, hr⟩ := q.tup
        cases rx
        have I5 : Inv X pins τ H4 { s4 with heap := s4.heap.push { cls := .type "slice", data := .fields #[vl, vu, vs] } } := I4.kept (t' := s4.toks) fun b ob q => Heap.get?_push_of_some _ q
        obtain ⟨its, r, htup, hz⟩ := I5.tuple hT.sq
        have hst : Vals (stepD xs o2 o3 c) (stepD its o2 o3 c) := by
          unfold stepD
          rw [r.length]
          exact filterMap_vals _ _ r
        have hlen : (stepD its o2 o3 c).length ≤ sizeLine := by
          rw [← hst.length, (stepD_reps hr o2 o3 c).length]
          exact lim_sz hc.2.2
        show wpAny (model X.prog X.w) X.A (subscriptTail a (.Slice lo hi (some st) p2) (.ref a') (.ref s4.heap.objs.size)) (EP X pins τ Q) X.xe _
        refine tail_any (ops := [.ref a', .ref s4.heap.objs.size]) htup.typeIs PyProof.Rows.slot_tuple_getitem.lookup ?_ (hs _ _)
        refine getItem_tup_step htup (Heap.IsSliceOf.new _ vl vu vs) pl pu ps hc.1 hc.2.1 hlen ?_
        have hf := I5.hok.fresh (Nat.le_refl _)
        refine ⟨.ref _, _, I5.laid (t' := s4.toks) (o := .tup (stepD xs o2 o3 c)) (fun b ob q => Heap.get?_push_of_some _ q) (Nat.le_refl _) ⟨by rw [hst.length]; exact hlen, _, hst, IsTup.new _ _⟩, rfl, ?_⟩
        exact k _ ι4 _ ((((F1.trans F2).trans F3).trans F4).trans (R4.sr.fra hf)) (R4.mono (R4.sr.fra hf) (R4.sr.fresh hf)) (.tup (.inl ⟨.inl upd_same, R4.sr.out hf⟩) ((stepD_reps hr o2 o3 c).mono (R4.sr.fra hf)))
      · cases e
    · cases e
  · cases e
end
end Dn
end

section
set_option maxRecDepth 100000
set_option maxHeartbeats 4000000
/-! Dn8: sum from a start -/
namespace Dn
open PySem PySem.Spec PyProof.Rows L2 HT
section
variable {prog : Program} {w : World} {A : Around} {E : Value → Shared → Prop} {s : Shared}
theorem args_sum2 (a b : Value) : argsOk "sum" ⟨[a, b], []⟩ := by unfold argsOk; kernel_rfl
/-- a walk behind one more item, that is never asked for -/
theorem walk_behind {I : Addr} {fp wr : List Addr} {n : Nat} {P : Nat → Value → Prop} {St : Nat → Heap → Prop} (W : Walks prog w A I fp wr n P St) :
    Walks prog w A I fp wr (n + 1) (fun i v => match i with | 0 => False | i + 1 => P i v) (fun i h => match i with | 0 => False | i + 1 => St i h) where
  sub := W.sub
  frame := fun i h h' st hk => match i, st with
    | i + 1, st => W.frame i h h' st hk
  item := fun i s Q E hi st hQ => match i, hi, st, hQ with
    | i + 1, hi, st, hQ => W.item i s Q E (by omega) st hQ
  done := fun s Q E st hQ => W.done s Q E st hQ
  self := fun i s Q E st hQ => match i, st with
    | i + 1, st => W.self i s Q E st hQ
def shiftV (k : Int) (val : Nat → Int) : Nat → Int
  | 0 => k
  | i + 1 => val i
theorem preSum_shift (k : Int) (val : Nat → Int) : ∀ n, preSum (shiftV k val) (n + 1) = k + preSum val n
  | 0 => by simp [preSum, shiftV]
  | n + 1 => by
    show preSum (shiftV k val) (n + 1) + val n = k + (preSum val n + val n)
    rw [preSum_shift k val n]
    omega
theorem call_sum_from {x : Value} {k : Int} {t : Tok} {Q : Value → Shared → Prop}
    (h : wpAny (model prog w) A.in1 (pyIter x) (fun it s₂ => ∃ I fp wr n P St val, it = .ref I ∧ Walks prog w A.in1 I fp wr n P St ∧ St 0 s₂.heap ∧ (∀ b ∈ fp, b < s₂.heap.objs.size) ∧
      (∀ i v, P i v → ∃ t, v = .int (val i) t) ∧
      ∀ h' tk t', (∀ b o, b ∉ wr → s₂.heap.get? b = some o → h'.get? b = some o) → Q (.int (k + preSum val n) t') { s₂ with heap := h', toks := tk }) E s) :
    wpAny (model prog w) A (call (.builtin "sum") [x, .int k t]) Q E s := by
  refine call_function_tree F.kind_sum F.plain_sum F.entry_sum (args_sum2 _ _) ?_
  unfold Builtin.«sum»
  simp only [List.length_cons, List.length_nil]
  rw [if_neg (by decide)]
  refine wpAny_bind (wpAny_of_eq (show Builtin.Builtins.bindParams "sum" ["start"] 0 ⟨[.int k t], []⟩ = pure [some (.int k t)] from rfl) ?_)
  refine wpAny_bind (wpAny_mono h (fun it s₂ h₂ => ?_) fun _ _ e => e)
  obtain ⟨I, fp, wr, n, P, St, val, rfl, W, hst, hfp, hval, hQ⟩ := h₂
  dsimp only
  have hSf : s₂.heap.objs.size ∉ fp := fun hm => Nat.lt_irrefl _ (hfp _ hm)
  have fin : ∀ (tk : Nat) (u : Tok) (stage : Int), (stage = 0 ∨ stage = 2) → codeAny (model prog w) A (.builtin "sum.loop" ⟨[.ref I, .ref s₂.heap.objs.size, rawInt stage, rawInt 0], []⟩)
      (fun r s' => match r with | .ok (.ret v) => Q v s' | .ok _ => False | .error e => E e s') { s₂ with heap := s₂.heap.push { cls := .type "list", data := .seq #[.int k u] }, toks := tk } := fun tk u stage hst2 => by
    refine codeAny_sum_loopG (walk_behind W) (shiftV k val) (fun i v hv => ?_) s₂.heap.objs.size hSf n 1 _ u 0 stage hst2 (by omega) (by omega) ?_ ?_ fun h' tk' t' hk => ?_
    · match i, hv with
      | i + 1, hv => exact hval i v hv
    · exact W.frame _ _ _ hst fun b _ o e => Heap.get?_push_of_some _ e
    · have e1 : preSum (shiftV k val) 1 = k := by simp [preSum, shiftV]
      rw [e1]
      exact Heap.get?_push_size _ rfl
    · have e1 := preSum_shift k val n
      rw [e1]
      exact hQ h' tk' t' fun b o hbw e => hk b o hbw (Nat.ne_of_lt (Heap.lt_size e)) (Heap.get?_push_of_some _ e)
  split
  · refine wpAny_bind (wpAny_rule (wpAny_bind (wpAny_mkInt (wpAny_bind (wpAny_pure ?_)))))
    simp only [List.forIn_cons, List.forIn_nil]
    refine wpAny_bind (wpAny_bind (wpAny_bind (wpAny_isInstance (T := "int") (b := false) (typeIs_int _ _ _) PySem.sub_int_str ?_)))
    simp only [Bool.false_eq_true, if_false]
    refine wpAny_pure (wpAny_bind (wpAny_bind (wpAny_isInstance (T := "int") (b := false) (typeIs_int _ _ _) sub_int_bytes ?_)))
    simp only [Bool.false_eq_true, if_false]
    refine wpAny_pure (wpAny_bind (wpAny_bind (wpAny_isInstance (T := "int") (b := false) (typeIs_int _ _ _) sub_int_bytearray ?_)))
    simp only [Bool.false_eq_true, if_false]
    refine wpAny_pure (wpAny_pure ?_)
    refine wpAny_bind (wpAny_newObj_type ?_)
    exact wpAny_pure ⟨plainId_quiet F.plain_sum_loop _, fin _ _ 0 (.inl rfl)⟩
  · refine wpAny_bind (wpAny_pure ?_)
    simp only [List.forIn_cons, List.forIn_nil]
    refine wpAny_bind (wpAny_bind (wpAny_bind (wpAny_isInstance (T := "int") (b := false) (typeIs_int _ _ _) PySem.sub_int_str ?_)))
    simp only [Bool.false_eq_true, if_false]
    refine wpAny_pure (wpAny_bind (wpAny_bind (wpAny_isInstance (T := "int") (b := false) (typeIs_int _ _ _) sub_int_bytes ?_)))
    simp only [Bool.false_eq_true, if_false]
    refine wpAny_pure (wpAny_bind (wpAny_bind (wpAny_isInstance (T := "int") (b := false) (typeIs_int _ _ _) sub_int_bytearray ?_)))
    simp only [Bool.false_eq_true, if_false]
    refine wpAny_pure (wpAny_pure ?_)
    refine wpAny_bind (wpAny_newObj_type ?_)
    exact wpAny_pure ⟨plainId_quiet F.plain_sum_loop _, fin _ _ 2 (.inr rfl)⟩
theorem sum_from {its : List Value} {ns : List Int} {l : Addr} {k : Int} {t : Tok} {Q : Value → Shared → Prop} (hh : A.handled = none) (hl : s.heap.IsList l its.toArray) (hi : IntsAre its ns)
    (h : ∀ h' tk t', (∀ b o, s.heap.get? b = some o → h'.get? b = some o) → Q (.int (k + ns.sum) t') { s with heap := h', toks := tk }) : wpAny (model prog w) A (call (.builtin "sum") [.ref l, .int k t]) Q E s := by
  obtain ⟨xs, e⟩ := hi.allInts.items
  have hn : numsOf (intItems xs).toList = ns := by rw [← e]; exact hi.numsOf
  rw [nums_intItems] at hn
  rw [e] at hl
  refine call_sum_from (iter_intList hl fun s₂ e st hfp hlI => ?_)
  subst e
  refine ⟨_, _, _, _, _, _, numAt xs, rfl, Walks.list (A := A.in1) hh _ l hlI (intItems xs), st, hfp, (fun _ _ => intItems_at), fun h' tk t' hk => ?_⟩
  have q := h h' tk t' (old_kept hk)
  have e2 : preSum (numAt xs) (intItems xs).size = ns.sum := by
    have e3 : (intItems xs).size = xs.size := by simp [intItems]
    rw [e3, preSum_eq, List.take_of_length_le (by simp), hn]
  rw [e2]
  exact q
end
section
variable {X : Cx}
def gSum2 : List D → M D := fun ds μ => match ds with
  | [d, .int k] => match pk d μ with
    | .list xs => (intsOf xs).map fun ns => (.int (k + ns.sum), μ)
    | _ => none
  | _ => none
theorem c_sum2 (hc : X.calm = true) : CallR X (.builtin "sum") (vA (bx X) gSum2) := by
  intro pins s τ H xs us Q I rv h
  obtain ⟨ι, μ, ds, d, μ', S, r, e, k⟩ := h
  unfold gSum2 at e
  split at e
  · rename_i d k'
    obtain ⟨v, u, rfl, r1, r2⟩ := r.two_inv
    have q := pk_ok S r1
    generalize Dn.pk _ μ = c at q e
    split at e
    · obtain ⟨ns, h1, h2⟩ := Option.map_eq_some_iff.mp e
      cases h2
      obtain ⟨a, vs, rfl, hs, hr⟩ := q.list
      rw [intsOf_rep h1 hr] at hs
      cases r2
      obtain ⟨u1, u2, rfl, q1, q2⟩ := rv.two
      cases q1
      obtain ⟨t, rfl⟩ := q2
      obtain ⟨its, rv2, hl, _⟩ := I.list hs
      exact sum_from (I.ok.hd hc) hl.isList rv2.ints fun h' tk t' hk => ⟨.int _, H, I.kept hk, ⟨_, rfl⟩, k _ ι H (.refl ι H) S (.int _)⟩
    · cases e
  · cases e
end
end Dn
end

section
set_option maxRecDepth 100000
set_option maxHeartbeats 4000000
/-! Dn9: enumerate of lists and tuples, zip -/
namespace Dn
open PySem PySem.Spec PyProof.Rows L2 HT
open PySem.AutoSeq1 (wpAny_loadPart')
/-- enumerate(a tuple): each item in a new pair -/
def IteT (K : PySem.W.Frag) (a : Addr) : It :=
  ⟨fun i H => ∃ (xs : List V) (x : V), SqT K H a xs ∧ xs[i]? = some x, fun i H v H' => ∃ T x, v = .ref T ∧ H T = none ∧ H' = upd H T (.tup [.int (i : Nat), x]) ∧ ∀ xs, SqT K H a xs → xs[i]? = some x, fun i H => ∃ xs : List V, SqT K H a xs ∧ xs.length = i⟩
theorem turn_enumT {P : Program} {w : World} {K : PySem.W.Frag} {elts : List Expr} {kk : Nat} {tpos : Pos} (a e it : Addr) :
    Turn P w K (.Tuple elts kk tpos) (IteT K a) [e, it] e (fun i h => (∃ old, IsEnum h e it ((i : Nat) : Int) old) ∧ h.IsTupleIter it a i ∧ e ≠ it) where
  mem := by simp
  obj := fun i h st b hb => by
    obtain ⟨⟨old, he⟩, ⟨o, ho, hc, hd⟩, _⟩ := st
    have e' : b = e ∨ b = it := by simpa using hb
    rcases e' with z | z
    · rw [z]; exact ⟨_, he, fun v q => nomatch q⟩
    · rw [z]; exact ⟨o, ho, fun v q => by rw [hd] at q; cases q⟩
  keep := fun i h h' st k => by
    obtain ⟨⟨old, he⟩, ⟨o, ho, hc, hd⟩, hne⟩ := st
    exact ⟨⟨old, k e (by simp) _ he⟩, ⟨o, k it (by simp) o ho, hc, hd⟩, hne⟩
  item := by
    intro X hP hw hK hc i pins s σ H E I hf st hg
    subst hP hw hK
    obtain ⟨⟨old, he⟩, hit, hne⟩ := st
    obtain ⟨xs, x, hq, hx⟩ := hg
    obtain ⟨its, rv, p, hz⟩ := I.tuple hq
    obtain ⟨u, hu, ru⟩ := rv.get hx
    have hel : e < s.heap.objs.size := Heap.lt_size he
    have hil : it < s.heap.objs.size := by obtain ⟨_, q, _⟩ := hit; exact Heap.lt_size q
    have hea : e ≠ a := by
      obtain ⟨o, q, c, _⟩ := id p
      rintro rfl
      rw [he] at q
      have q2 := Option.some.inj q
      rw [← q2] at c
      exact absurd (Value.type.inj c) (by decide)
    have hia : a ≠ it := by
      obtain ⟨o, q, c, _⟩ := id p
      obtain ⟨o2, q2, c2, _⟩ := id hit
      rintro rfl
      rw [q] at q2
      cases q2
      rw [c] at c2
      exact absurd (Value.type.inj c2) (by decide)
    have hlt : i < its.toArray.size := by rw [List.size_toArray]; exact (List.getElem?_eq_some_iff.mp hu).1
    refine wpAny_pyNext_enum_itemC (Draws.tuple (A := X.A.in1) (I.ok.hd hc) it a hia its.toArray) he ⟨hit, p⟩ hlt hne (by simp [hne, hea]) fun y h' tk hP ho st' hT hsz hk => ?_
    have ey : y = u := by
      have hP : its.toArray[i]? = some y := hP
      rw [show its.toArray[i]? = some u by simpa using hu] at hP
      exact (Option.some.inj hP).symm
    subst ey
    refine ⟨_, rfl, wpAny_letOwnedTupleGo_enum (s := { s with heap := h', toks := tk + 1 }) ho fun h'' he' sb => ?_⟩
    have hT2 : h''.get? s.heap.objs.size = some { cls := .type "tuple", data := .seq #[.int i tk, y] } := (sb.2 _ (Nat.ne_of_gt hel)).trans hT
    have new : ObjOk X.prog X.w (upd H s.heap.objs.size (.tup [.int (i : Nat), x])) h'' s.heap.objs.size (.tup [.int (i : Nat), x]) :=
      ⟨by show 2 ≤ sizeLine; decide, [.int i tk, y], .cons ⟨_, rfl⟩ (.cons ru .nil), ⟨_, hT2, rfl, _, rfl⟩⟩
    have I1 : Inv X pins σ (upd H s.heap.objs.size (.tup [.int (i : Nat), x])) { s with heap := h'', toks := tk + 1 } :=
      I.turnedNew (ch := [e, it]) (fun b ob hb q => (sb.2 b (fun z => hb (by simp [z]))).trans (hk b ob (fun z => hb (by simp [z])) (fun z => hb (by simp [z])) q)) hf (Nat.le_refl _) new
    refine ⟨.ref s.heap.objs.size, _, I1, rfl, ⟨_, x, rfl, I.hok.fresh (Nat.le_refl _), rfl, fun ys hy => by rw [I.tuple_inj hy hq]; exact hx⟩, ⟨⟨y, ?_⟩, ?_, hne⟩, fun b hb => ?_⟩
    · have e1 : ((i + 1 : Nat) : Int) = (i : Int) + 1 := by omega
      rw [e1]; exact he'
    · obtain ⟨o, q, r⟩ := st'.1
      exact ⟨o, (sb.2 it (Ne.symm hne)).trans q, r⟩
    · have hb' : b < s.heap.objs.size := by
        have e' : b = e ∨ b = it := by simpa using hb
        rcases e' with z | z
        · rw [z]; exact hel
        · rw [z]; exact hil
      rw [upd_ne (Nat.ne_of_lt hb')]
      exact (hf b hb).1
  done := by
    intro X hP hw hK hc i pins s σ H E I hf st hg
    subst hP hw hK
    obtain ⟨⟨old, he⟩, hit, hne⟩ := st
    obtain ⟨xs, hq, hx⟩ := hg
    obtain ⟨its, rv, p, hz⟩ := I.tuple hq
    have hl := rv.length
    have hia : a ≠ it := by
      obtain ⟨o, q, c, _⟩ := id p
      obtain ⟨o2, q2, c2, _⟩ := id hit
      rintro rfl
      rw [q] at q2
      cases q2
      rw [c] at c2
      exact absurd (Value.type.inj c2) (by decide)
    have hn : its.toArray.size = i := by rw [List.size_toArray, ← hl]; exact hx
    obtain ⟨f0, f1, f2, f3, f4, f5⟩ := hf it (by simp)
    exact wpAny_pyNext_enum_endD (Draws.tuple (A := X.A.in1) (I.ok.hd hc) it a hia its.toArray) he (by rw [hn]; exact ⟨hit, p⟩) fun h' eb => ⟨rfl, I.turned (t' := s.toks) (fun b o hb q => eb b o hb q) f0 f1 f3 f4 f5⟩
  self := fun A i s Q E st h => let ⟨⟨_, he⟩, _⟩ := st; wpAny_pyIter_enum he h
theorem meets_enum_tup (t : Addr) (items : Array Value) :
    Meets (Builtin.«enumerate.__new__» ⟨[.type "enumerate", .ref t], []⟩) (fun _ R s => s.heap.IsTuple t items ∧
      R (.ok (.ret (.ref (s.heap.push { cls := .type "tuple_iterator", data := .fields #[.ref t, .int 0 0] }).objs.size)))
        { s with heap := (s.heap.push { cls := .type "tuple_iterator", data := .fields #[.ref t, .int 0 0] }).push { cls := .type "enumerate", data := .fields #[.none, .bool false, .ref s.heap.objs.size, rawInt 0, .none, .none] } }) :=
  .of_wp fun prog w A R s h => by
    obtain ⟨hp, g, d, tk, os⟩ := s; obtain ⟨hl, h⟩ := h
    have hsub := sub_enumerate
    have q1 : ∀ {A' : Around} {E : Value → Shared → Prop} {Q : Value → Shared → Prop}, Q (.ref hp.objs.size) ⟨hp.push { cls := .type "tuple_iterator", data := .fields #[.ref t, .int 0 0] }, g, d, tk, os⟩ → wpAny (model prog w) A' (pyIter (.ref t)) Q E ⟨hp, g, d, tk, os⟩ :=
      fun q => wpAny_pyIter_tuple (s := ⟨hp, g, d, tk, os⟩) hl q
    wp_walk using q1
    refine wpAny_stack_any fun st => wpAny_pure ?_
    split
    · rename_i c _ _ _ _ _
      cases (c == Value.type "enumerate")
      · wp_walk using q1
        exact ⟨_, rfl, h⟩
      · wp_walk using q1
        exact ⟨_, rfl, h⟩
    · wp_walk using q1
      exact ⟨_, rfl, h⟩
theorem call_enum_tup {prog : Program} {w : World} {A : Around} {E : Value → Shared → Prop} {s : Shared} {t : Addr} {items : Array Value} {Q : Value → Shared → Prop} (ht : s.heap.IsTuple t items)
    (h : ∀ h', IsEnum h' (s.heap.objs.size + 1) s.heap.objs.size 0 .none → h'.IsTupleIter s.heap.objs.size t 0 → h'.objs.size = s.heap.objs.size + 2 →
      (∀ b o, s.heap.get? b = some o → h'.get? b = some o) → Q (.ref (s.heap.objs.size + 1)) { s with heap := h' }) :
    wpAny (model prog w) A (call (.type "enumerate") [.ref t]) Q E s := by
  refine callType_new F.called_enumerate (by decide) (F.typeCall_enumerate_1 _) (F.newCall_enumerate_1 _) (fun obj => F.args_object_init_2 obj _) F.entry_enumerate_new
    (meets_enum_tup t items) ⟨ht, ?_⟩
  have hz : (s.heap.push { cls := .type "tuple_iterator", data := .fields #[.ref t, .int 0 0] }).objs.size = s.heap.objs.size + 1 := Heap.size_push ..
  show _ ∧ _
  rw [hz]
  have he : IsEnum ((s.heap.push { cls := .type "tuple_iterator", data := .fields #[.ref t, .int 0 0] }).push
      { cls := .type "enumerate", data := .fields #[.none, .bool false, .ref s.heap.objs.size, rawInt 0, .none, .none] }) (s.heap.objs.size + 1) s.heap.objs.size 0 .none := by
    have q := Heap.get?_push_size (s.heap.push { cls := .type "tuple_iterator", data := .fields #[.ref t, .int 0 0] })
      (o := { cls := .type "enumerate", data := .fields #[.none, .bool false, .ref s.heap.objs.size, rawInt 0, .none, .none] }) rfl
    rw [hz] at q; exact q
  exact ⟨⟨_, he, rfl⟩, h _ he ⟨_, Heap.get?_push_of_some _ (Heap.get?_push_size _ rfl), rfl, rfl⟩ (by rw [Heap.size_push, hz]) fun b o x => Heap.get?_push_of_some _ (Heap.get?_push_of_some _ x)⟩
def iEnumT (K : PySem.W.Frag) (ta : TA) : TI := fun σ H R => ta σ H fun vs H1 => ∃ a xs, vs = [.ref a] ∧ SqT K H1 a xs ∧ R (IteT K a) H1
theorem pi_enumT {X : Cx} {e : Expr} {ta : TA} {p pos tpos : Pos} {elts : List Expr} {kk : Nat} (hg : Gl X "enumerate") (hm : X.mg "enumerate" = none) (ha : PA X [e] ta) (hs : starEach [e] X.env = [(false, eval e X.env)] := by rfl) :
    PI X (.Tuple elts kk tpos) (.Call (.Name "enumerate" p) [e] [] pos) (iEnumT X.K ta) := by
  refine ⟨fun pins s σ H R I h => ?_⟩
  refine Call_ (ld_blt I hg hm boot_enumerate (PyProof.Rows.callWith_type1 (thn (ha.run pos pins s σ H _ I h) fun us s1 ⟨vs, H1, I1, r1, q1⟩ => ?_) hs rfl))
  obtain ⟨a, xs, ex, hq, q⟩ := q1
  subst ex
  cases r1 with
  | cons r rr =>
    cases rr
    cases r
    obtain ⟨its, rv, p', hz⟩ := I1.tuple hq
    refine call_enum_tup (items := its.toArray) p' fun h' he hit hsz hk => wpAny_pyIter_enum he ?_
    have I2 : Inv X pins σ H1 { s1 with heap := h' } := I1.kept (t' := s1.toks) hk
    refine ⟨s1.heap.objs.size + 1, [s1.heap.objs.size + 1, s1.heap.objs.size], _, _, H1, rfl, I2, turn_enumT a (s1.heap.objs.size + 1) s1.heap.objs.size, ⟨⟨.none, he⟩, hit, Nat.succ_ne_self _⟩, fun b hb => ?_, q⟩
    have e' : b = s1.heap.objs.size + 1 ∨ b = s1.heap.objs.size := by simpa using hb
    have hle : s1.heap.objs.size ≤ b := by
      rcases e' with z | z
      · rw [z]; exact Nat.le_succ _
      · rw [z]; exact Nat.le_refl _
    exact I1.fpOk hle (I1.hok.fresh hle)
/-! ### enumerate as a source -/
def enumF (n : Nat) : List D → List D
  | [] => []
  | d :: ds => .tuple [.int (n : Nat), d] :: enumF (n + 1) ds
theorem enumF_get : ∀ (xs : List D) (n i : Nat), (enumF n xs)[i]? = (xs[i]?).map fun d => .tuple [.int ((n + i : Nat) : Int), d]
  | [], n, i => by simp [enumF]
  | d :: ds, n, 0 => by simp [enumF]
  | d :: ds, n, i + 1 => by
    unfold enumF
    rw [List.getElem?_cons_succ, List.getElem?_cons_succ, enumF_get ds (n + 1) i, show n + 1 + i = n + (i + 1) by omega]
theorem enumF_length : ∀ (xs : List D) (n : Nat), (enumF n xs).length = xs.length
  | [], n => rfl
  | d :: ds, n => by unfold enumF; rw [List.length_cons, List.length_cons, enumF_length ds (n + 1)]
/-- for .. in enumerate(x) -/
def iEnumD (f : Den) : DenI := fun σ μ => (f σ μ).bind fun p => match pk p.1 p.2 with
  | .list xs => match asRf p.1 with
    | none => some (⟨enumF 0 xs, none⟩, p.2)
    | some _ => none
  | .tuple xs => some (⟨enumF 0 xs, none⟩, p.2)
  | _ => none
section
variable {X : Cx} {l : Expr} {fl : Den} {elts : List Expr} {kk : Nat} {p pos tpos : Pos}
theorem pair_new {B : Kx} {ι : Ix} {μ : Sto} {H : Hp} {T : Addr} {x : V} {d : D} {i : Nat} (S : SR B ι μ H) (hT : H T = none) (r : Rep B ι H x d) :
    Same H (upd H T (.tup [.int (i : Nat), x])) ∧ Rep B ι (upd H T (.tup [.int (i : Nat), x])) (.ref T) (.tuple [.int (i : Nat), d]) :=
  ⟨fun b o e => by rw [upd_ne (ne_of_none e hT)]; exact e, .tup (.inl ⟨.inl upd_same, S.out hT⟩) (.cons (.int _) (.one (r.mono (S.fra hT))))⟩
theorem i_enum (hg : Gl X "enumerate") (hm : X.mg "enumerate" = none) (hl : PE X l (dE (bx X) fl)) (hs1 : starEach [l] X.env = (false, eval l X.env) :: starEach [] X.env := by rfl) (hs : starEach [l] X.env = [(false, eval l X.env)] := by rfl) :
    PI X (.Tuple elts kk tpos) (.Call (.Name "enumerate" p) [l] [] pos) (dI (bx X) (iEnumD fl)) := ⟨fun pins s τ H R I h => by
  obtain ⟨ι, σ, μ, sc, μ', Rl, e, k⟩ := h
  obtain ⟨⟨d, μ1⟩, e1, e⟩ := bind_some e
  have ha : PA X [l] (tCons (dE (bx X) fl) tNil) := pa_cons hl pa_nil hs1
  dsimp only at e
  split at e
  · rename_i xs hx
    split at e
    · rename_i hrf
      cases e
      refine (pi_enum hg hm ha hs).run pins s τ H R I ⟨ι, σ, μ, d, _, Rl, e1, fun v ι1 H1 F1 R1 r1 => ?_⟩
      obtain ⟨a, vs, rfl, hq, hr⟩ := (hx ▸ pk_ok R1.sr r1 : Pk _ _ _ _ (.list xs)).list
      refine ⟨a, vs, rfl, hq, k _ ι1 H1 F1 R1 fun ι2 zs μ2 H2 F2 hz S2 w i => ?_⟩
      obtain ⟨a', vs', e2, hs2, hr2⟩ := r1.lsq R1.sr hx (cv_of F2 hz) S2 (by rw [hrf]; trivial)
      cases e2
      refine ⟨fun d' hd => ?_, fun hi => ⟨vs', hs2, by rw [hr2.length, ← enumF_length xs 0]; exact Nat.le_of_eq hi⟩⟩
      rw [enumF_get] at hd
      obtain ⟨d2, h1, h2⟩ := Option.map_eq_some_iff.mp hd
      obtain ⟨v, hv, rv⟩ := hr2.get h1
      refine ⟨⟨vs', v, hs2, hv⟩, fun x H'' y => ?_⟩
      obtain ⟨T, z, rfl, hT, rfl, hall⟩ := y
      have := hall vs' hs2
      rw [hv] at this
      cases this
      rw [← h2, Nat.zero_add]
      exact pair_new S2 hT rv
    · cases e
  · rename_i xs hx
    cases e
    refine (pi_enumT hg hm ha hs).run pins s τ H R I ⟨ι, σ, μ, d, _, Rl, e1, fun v ι1 H1 F1 R1 r1 => ?_⟩
    obtain ⟨a, vs, rfl, hq, hr⟩ := (hx ▸ pk_ok R1.sr r1 : Pk _ _ _ _ (.tuple xs)).tup
    refine ⟨a, vs, rfl, hq.sq, k _ ι1 H1 F1 R1 fun ι2 zs μ2 H2 F2 hz S2 w i => ?_⟩
    have hs2 := (hq.mono F2).sq
    have hr2 := hr.cv (cv_of F2 hz)
    refine ⟨fun d' hd => ?_, fun hi => ⟨vs, hs2, by rw [hr2.length, ← enumF_length xs 0]; exact hi⟩⟩
    rw [enumF_get] at hd
    obtain ⟨d2, h1, h2⟩ := Option.map_eq_some_iff.mp hd
    obtain ⟨v, hv, rv⟩ := hr2.get h1
    refine ⟨⟨vs, v, hs2, hv⟩, fun x H'' y => ?_⟩
    obtain ⟨T, z, rfl, hT, rfl, hall⟩ := y
    have := hall vs hs2
    rw [hv] at this
    cases this
    rw [← h2, Nat.zero_add]
    exact pair_new S2 hT rv
  · cases e⟩
end
end Dn
end

section
set_option maxRecDepth 100000
set_option maxHeartbeats 4000000
/-! Dn10: tuple * int -/
namespace Dn
open PySem PySem.Spec PyProof.Rows L2 HT
open PySem.AutoSeq1 (wpAny_loadPart')
theorem tup_mul_same (l : Addr) (items : Array Value) (n : Nat) (dd : Option Addr) (sl : Array (Option Value)) (x : Int) (u : Tok) (c0 : (decide (x < -(2 ^ 63)) || decide (x ≥ 2 ^ 63)) = false) (c1 : (items.isEmpty || x == 1) = true) :
    Meets (Builtin.«tuple.__mul__» ⟨[.ref l, .int x u], []⟩) (fun _ R s => s.heap.get? l = some { cls := .type "tuple", dict := dd, data := .seq items n, slots := sl } ∧ R (.ok (.ret (Value.ref l))) s) :=
  .of_wp fun prog w A R s h => by
    obtain ⟨hp, g, d, tk, os⟩ := s
    obtain ⟨hl, h⟩ := h
    have f1 := AutoSeq1.idx_int
    wp_walk using wpAny_loadPart' hl
    refine wpAny_ite_false (decide_eq_false (by rw [c0]; exact Bool.false_ne_true)) ?_
    wp_walk using wpAny_loadPart' hl
    exact ⟨_, rfl, h⟩
theorem tup_mul_none (l : Addr) (items : Array Value) (n : Nat) (dd : Option Addr) (sl : Array (Option Value)) (x : Int) (u : Tok) (c0 : (decide (x < -(2 ^ 63)) || decide (x ≥ 2 ^ 63)) = false) (c1 : (items.isEmpty || x == 1) = false) (c2 : (decide (x ≤ 0) || items.isEmpty) = true) :
    Meets (Builtin.«tuple.__mul__» ⟨[.ref l, .int x u], []⟩) (fun _ R s => s.heap.get? l = some { cls := .type "tuple", dict := dd, data := .seq items n, slots := sl } ∧
      R (.ok (.ret (Value.ref s.heap.objs.size))) { s with heap := s.heap.push { cls := Value.type "tuple", data := Data.seq #[] }, toks := s.toks }) :=
  .of_wp fun prog w A R s h => by
    obtain ⟨hp, g, d, tk, os⟩ := s
    obtain ⟨hl, h⟩ := h
    have f1 := AutoSeq1.idx_int
    wp_walk using wpAny_loadPart' hl
    refine wpAny_ite_false (decide_eq_false (by rw [c0]; exact Bool.false_ne_true)) ?_
    wp_walk using wpAny_loadPart' hl
    exact ⟨_, rfl, h⟩
section
variable {X : Cx}
def rRep0 (K : PySem.W.Frag) : R2 := fun x y H Q => ∃ l k xs, x = .ref l ∧ y = .int k ∧ SqT K H l xs ∧ -1000 ≤ k ∧ k ≤ 1000 ∧ (xs = [] ∨ k ≤ 1) ∧ ((xs = [] ∨ k = 1) → Q (.ref l) H) ∧ (xs ≠ [] → k ≤ 0 → ∀ p, H p = none → Q (.ref p) (upd H p (.tup [])))
theorem op_rep0 : OpR X (binaryOp .Mult) (rRep0 X.K) := by
  intro pins s σ H x y v u Q I rx ry h
  obtain ⟨l, k, xs, rfl, rfl, hT, h1, h2, h3, q1, q2⟩ := h
  cases rx
  obtain ⟨t, rfl⟩ := ry
  obtain ⟨its, r, ⟨⟨cls, dd, data, sl⟩, ho, hc, n, hd⟩, hs⟩ := I.tuple hT
  simp only at hc hd
  subst hc hd
  have c0 : (decide (k < -(2 ^ 63)) || decide (k ≥ 2 ^ 63)) = false := by
    rw [decide_eq_false (by omega), decide_eq_false (by omega)] <;> rfl
  have he : its.toArray.isEmpty = xs.isEmpty := by cases r <;> simp
  refine wpAny_binaryOp_repeat_ref (T := "tuple") (U := "int") (by decide) ⟨_, ho, rfl⟩ (fun s' => typeIs_int s' k t) noFill_tuple_mul F.fills_int_mul F.slot_int_rmul repeat_tuple F.slot_int_index.lookup
    (call_meets F.slot_int_rmul (typeIs_int s k t) F.entry_int_rmul (F.args_int_rmul_2 _ _) (int_rmul_tuple k t l its.toArray n dd sl)
      ⟨ho, rfl, ⟨_, ho, rfl⟩, ?_⟩)
  by_cases hx : xs = [] ∨ k = 1
  · have c1 : (its.toArray.isEmpty || k == 1) = true := by
      rw [he]
      rcases hx with hx | hx
      · rw [hx]; rfl
      · rw [hx]; simp
    exact call_meets F.slot_tuple_mul ⟨_, ho, rfl⟩ F.entry_tuple_mul (F.args_tuple_mul_2 _ _) (tup_mul_same l its.toArray n dd sl k t c0 c1) ⟨ho, .ref l, H, I, rfl, q1 hx⟩
  · have hx1 : xs ≠ [] := fun z => hx (.inl z)
    have hx2 : k ≠ 1 := fun z => hx (.inr z)
    have c1 : (its.toArray.isEmpty || k == 1) = false := by
      rw [he]
      cases xs with
      | nil => exact absurd rfl hx1
      | cons a b => simp [hx2]
    have h4 : k ≤ 1 := h3.elim (fun z => absurd z hx1) id
    have c2 : (decide (k ≤ 0) || its.toArray.isEmpty) = true := by rw [decide_eq_true (by omega)]; rfl
    refine call_meets F.slot_tuple_mul ⟨_, ho, rfl⟩ F.entry_tuple_mul (F.args_tuple_mul_2 _ _) (tup_mul_none l its.toArray n dd sl k t c0 c1 c2) ⟨ho, ?_⟩
    refine ⟨.ref s.heap.objs.size, _, I.laid (t' := s.toks) (o := .tup []) (fun b ob q => Heap.get?_push_of_some _ q) (Nat.le_refl _) ?_, rfl, q2 hx1 (by omega) _ (I.hok.fresh (Nat.le_refl _))⟩
    exact ⟨Nat.zero_le _, [], .nil, IsTup.new _ _⟩
theorem Reps.rep {B : Kx} {ι : Ix} {H : Hp} {vs : List V} {ds : List D} (r : Reps B ι H vs ds) : ∀ n : Nat, Reps B ι H (List.replicate n vs).flatten (List.replicate n ds).flatten
  | 0 => .nil
  | n + 1 => by
    rw [List.replicate_succ, List.replicate_succ, List.flatten_cons, List.flatten_cons]
    exact r.append (r.rep n)
/-- int * int (one of them below 2^64), tuple * int -/
def gMul : D → D → M D := fun a b μ => match a, b with
  | .int i, .int j => if (-(2 ^ 64) < i ∧ i < 2 ^ 64) ∨ (-(2 ^ 64) < j ∧ j < 2 ^ 64) then some (.int (i * j), μ) else none
  | .tuple xs, .int k => if -1000 ≤ k ∧ k ≤ 1000 ∧ xs.length ≤ 1000 then some (.tuple (List.replicate k.toNat xs).flatten, μ) else none
  | _, _ => none
theorem o_mul : OpR X (binaryOp .Mult) (v2 (bx X) gMul) := (OpR.or op_mul (OpR.or op_rep0 op_repT)).to fun x y H Q h => by
  obtain ⟨ι, μ, dx, dy, d, μ', S, rx, ry, e, k⟩ := h
  unfold gMul at e
  split at e
  · split at e
    · rename_i hc
      cases rx; cases ry; cases e
      exact .inl ⟨_, _, rfl, rfl, hc, k _ ι H (.refl ι H) S (.int _)⟩
    · cases e
  · rename_i xs j
    split at e
    · rename_i hc
      cases ry; cases e
      cases rx with
      | @tup a vs _ hT hr =>
        by_cases h1 : j ≤ 1
        · refine .inr (.inl ⟨a, j, vs, rfl, rfl, hT.sq, hc.1, hc.2.1, .inr h1, fun z => ?_, fun hx hj => ?_⟩)
          · refine k _ ι H (.refl ι H) S (.tup hT ?_)
            rcases z with z | z
            · subst z
              cases hr
              rw [show (List.replicate j.toNat ([] : List D)).flatten = [] by simp]
              exact .nil
            · subst z
              rw [show (List.replicate (1 : Int).toNat xs).flatten = xs by simp]
              exact hr
          · have e0 : j.toNat = 0 := by omega
            rw [e0] at k
            exact end_tup S .nil k
        · by_cases hx : vs = []
          · subst hx
            cases hr
            refine .inr (.inl ⟨a, j, [], rfl, rfl, hT.sq, hc.1, hc.2.1, .inl rfl, fun _ => ?_, fun hx => absurd rfl hx⟩)
            refine k _ ι H (.refl ι H) S (.tup hT ?_)
            rw [show (List.replicate j.toNat ([] : List D)).flatten = [] by simp]
            exact .nil
          · refine .inr (.inr ⟨a, j, vs, rfl, rfl, hT.sq, hx, by omega, hc.2.1, by rw [hr.length]; exact hc.2.2, end_tup S (hr.rep _) k⟩)
    · cases e
  · cases e
end
end Dn
end

section
set_option maxRecDepth 100000
set_option maxHeartbeats 4000000
/-! Dn11: chains; defs that leave the store as it was; calls by names -/
namespace Dn
open PySem PySem.Spec PyProof.Rows L2
section
variable {X : Cx} {a b c : Expr} {fa fb fc : Den} {pos : Pos} {op op' : CmpOp} {g g' : D → D → M D}
def dChain (g g' : D → D → M D) (fa fb fc : Den) : Den := fun σ μ => (fa σ μ).bind fun p => (fb σ p.2).bind fun q => (g p.1 q.1 q.2).bind fun r => match r.1 with
  | .bool true => (fc σ r.2).bind fun t => g' q.1 t.1 t.2
  | .bool false => some (.bool false, r.2)
  | _ => none
theorem goChain {B : Kx} {τ : L2.St} {H : Hp} {Q : VK} (h : dE B (dChain g g' fa fb fc) τ H Q) : tChain (v2 B g) (v2 B g') (dE B fa) (dE B fb) (dE B fc) τ H Q := by
  obtain ⟨ι, σ, μ, d, μ', R, e, k⟩ := h
  obtain ⟨⟨d1, μ1⟩, e1, e⟩ := bind_some e
  obtain ⟨⟨d2, μ2⟩, e2, e⟩ := bind_some e
  obtain ⟨⟨d3, μ3⟩, e3, e⟩ := bind_some e
  refine ⟨ι, σ, μ, d1, μ1, R, e1, fun x ι1 H1 F1 R1 r1 => ⟨ι1, σ, μ1, d2, μ2, R1, e2, fun y ι2 H2 F2 R2 r2 => ⟨ι2, μ2, d1, d2, d3, μ3, R2.sr, r1.mono F2, r2, e3, fun z ι3 H3 F3 S3 r3 => ?_⟩⟩⟩
  dsimp only at e
  have R3 := R2.mono F3 S3
  split at e
  · obtain ⟨⟨d4, μ4⟩, e4, e⟩ := bind_some e
    cases r3
    refine ⟨true, rfl, ?_⟩
    rw [if_pos rfl]
    exact ⟨ι3, σ, μ3, d4, μ4, R3, e4, fun w ι4 H4 F4 R4 r4 => ⟨ι4, μ4, d2, d4, d, μ', R4.sr, (r2.mono F3).mono F4, r4, e, fun v ι5 H5 F5 S5 r5 => k v ι5 H5 ((((F1.trans F2).trans F3).trans F4).trans F5) (R4.mono F5 S5) r5⟩⟩
  · cases r3
    cases e
    refine ⟨false, rfl, ?_⟩
    rw [if_neg Bool.false_ne_true]
    exact k _ ι3 H3 ((F1.trans F2).trans F3) R3 (.bl false)
  · cases e
theorem e_chain (ho : OpR X (compareOp op) (v2 (bx X) g)) (ho' : OpR X (compareOp op') (v2 (bx X) g')) (ha : PE X a (dE (bx X) fa)) (hb : PE X b (dE (bx X) fb)) (hc : PE X c (dE (bx X) fc)) (hm : lastMarks [op, op'] [b, c] = false := by with_unfolding_all rfl) :
    PE X (.Compare a [op, op'] [b, c] pos) (dE (bx X) (dChain g g' fa fb fc)) := (pe_chain ho ho' ha hb hc hm).to fun _ _ _ h => goChain h
theorem b_chain (ho : OpR X (compareOp op) (v2 (bx X) g)) (ho' : OpR X (compareOp op') (v2 (bx X) g')) (ha : PE X a (dE (bx X) fa)) (hb : PE X b (dE (bx X) fb)) (hc : PE X c (dE (bx X) fc)) (hm : lastMarks [op, op'] [b, c] = false := by with_unfolding_all rfl) :
    PT X (.Compare a [op, op'] [b, c] pos) (dT (bx X) (bVal (dChain g g' fa fb fc))) := (pt_chain ho ho' ha hb hc hm).to fun τ H Q h => by
  obtain ⟨ι, σ, μ, d, μ', R, e, k⟩ := h
  obtain ⟨⟨d1, μ1⟩, e1, e⟩ := bind_some e
  dsimp only at e
  split at e
  · cases e
    refine goChain ⟨ι, σ, μ, _, μ', R, e1, fun v ι1 H1 F1 R1 r1 => ?_⟩
    cases r1
    exact ⟨_, rfl, k ι1 H1 F1 R1⟩
  · cases e
end

/-! ### what a def hands back, without the objects that it made -/
mutual
/-- no object of the store within -/
def plain : D → Bool
  | .none => true
  | .bool _ => true
  | .int _ => true
  | .str _ => true
  | .list xs => plains xs
  | .tuple xs => plains xs
  | .dict _ => false
def plains : List D → Bool
  | [] => true
  | d :: ds => plain d && plains ds
end
theorem plains_map {α : Type} {f : α → D} (h : ∀ x, plain (f x) = true) : ∀ l : List α, plains (l.map f) = true
  | [] => by unfold plains; rfl
  | a :: l => by
    show plains (f a :: l.map f) = true
    unfold plains
    exact Bool.and_eq_true_iff.mpr ⟨h a, plains_map h l⟩
mutual
/-- objects from number n on become data -/
def thaw (μ : Sto) (n : Nat) : Nat → D → Option D
  | 0, _ => none
  | k + 1, d => if plain d = true then some d else match d with
    | .none => some .none
    | .bool b => some (.bool b)
    | .int i => some (.int i)
    | .str x => some (.str x)
    | .list xs => (thawL μ n k xs).map .list
    | .tuple xs => (thawL μ n k xs).map .tuple
    | .dict kvs => match asRf (.dict kvs) with
      | some m => if m < n then some (.dict kvs) else match μ[m]? with
        | some (.lst xs) => (thawL μ n k xs).map .list
        | _ => none
      | none => none
def thawL (μ : Sto) (n : Nat) : Nat → List D → Option (List D)
  | 0, _ => none
  | k + 1, ds => if plains ds = true then some ds else match ds with
    | [] => some []
    | d :: ds => (thaw μ n k d).bind fun e => (thawL μ n k ds).map (e :: ·)
end
def Ix.cut (ι : Ix) (n : Nat) : Ix := ⟨ι.a.take n, ι.z⟩
section
variable {B : Kx} {ι ι' : Ix} {H H' : Hp} {μ μ' : Sto} {n : Nat}
theorem cut_out {a : Addr} (h : ι.out a) : (ι.cut n).out a := ⟨fun z => h.1 (List.mem_of_mem_take z), h.2⟩
theorem LAt.cut {a : Addr} {xs : List V} (h : LAt B ι H a xs) : LAt B (ι.cut n) H a xs := h.imp (fun q => ⟨q.1, cut_out q.2⟩) id
theorem TAt.cut {a : Addr} {xs : List V} (h : TAt B ι H a xs) : TAt B (ι.cut n) H a xs := h.imp (fun q => ⟨q.1, cut_out q.2⟩) id
theorem cut_at {m : Nat} {a : Addr} (h : ι.a[m]? = some a) (hm : m < n) : (ι.cut n).a[m]? = some a := by
  show (ι.a.take n)[m]? = some a
  rw [List.getElem?_take_of_lt hm]
  exact h
mutual
theorem Rep.plainCut : ∀ {d : D} {v : V}, plain d = true → Rep B ι H v d → Rep B (ι.cut n) H v d
  | .none, _, _, .non => .non
  | .bool _, _, _, .bl b => .bl b
  | .int _, _, _, .int i => .int i
  | .str _, _, _, .str x => .str x
  | .list _, _, p, .lst e o q => .lst e (cut_out o) (Reps.plainCut (by unfold plain at p; exact p) q)
  | .tuple _, _, p, .tup e q => .tup e.cut (Reps.plainCut (by unfold plain at p; exact p) q)
  | .dict _, _, p, _ => by unfold plain at p; cases p
theorem Reps.plainCut : ∀ {ds : List D} {vs : List V}, plains ds = true → Reps B ι H vs ds → Reps B (ι.cut n) H vs ds
  | [], _, _, .nil => .nil
  | _ :: _, _, p, .cons a b => by
    unfold plains at p
    obtain ⟨p1, p2⟩ := Bool.and_eq_true_iff.mp p
    exact .cons (Rep.plainCut p1 a) (Reps.plainCut p2 b)
end
mutual
theorem thaw_ok (S : SR B ι μ H) : ∀ (k : Nat) {v : V} {d d' : D}, Rep B ι H v d → thaw μ n k d = some d' → Rep B (ι.cut n) H v d'
  | 0, _, _, _, _, h => by unfold thaw at h; cases h
  | k + 1, v, d, d', r, h => by
    unfold thaw at h
    split at h
    · rename_i p
      cases h
      exact r.plainCut p
    split at h
    · cases h; cases r; exact .non
    · cases h; cases r; exact .bl _
    · cases h; cases r; exact .int _
    · cases h; cases r; exact .str _
    · obtain ⟨ys, h1, h2⟩ := Option.map_eq_some_iff.mp h
      cases h2
      cases r with
      | lst e o q => exact .lst e (cut_out o) (thawL_ok S k q h1)
    · obtain ⟨ys, h1, h2⟩ := Option.map_eq_some_iff.mp h
      cases h2
      cases r with
      | tup e q => exact .tup e.cut (thawL_ok S k q h1)
    · split at h
      · rename_i m hm
        have e := asRf_some hm
        rw [e] at r
        split at h
        · rename_i hlt
          cases h
          rw [e]
          generalize hd : rf m = d at r
          cases r with
          | rf e2 =>
            have e3 := rf_inj hd
            subst e3
            exact .rf (cut_at e2 hlt)
          | fz _ _ => unfold rf fz at hd; injection hd with hd; injection hd with hd _; injection hd with _ hd; cases hd
          | _ => exact absurd hd (by unfold rf; intro z; cases z)
        · rename_i hlt
          split at h
          · rename_i xs hx
            obtain ⟨ys, h1, h2⟩ := Option.map_eq_some_iff.mp h
            cases h2
            obtain ⟨a, rfl, ha, vs, hH, hr⟩ := S.at r hx
            refine .lst hH ⟨fun z => ?_, fun z => (S.zt a z).2 (List.mem_of_getElem? ha)⟩ (thawL_ok S k hr h1)
            have z : a ∈ ι.a.take n := z
            obtain ⟨j, hj, ej⟩ := List.getElem_of_mem z
            have hj2 : j < n := by
              have := hj
              rw [List.length_take] at this
              omega
            have ej2 : ι.a[j]? = some a := by
              rw [← List.getElem?_take_of_lt hj2]
              exact List.getElem?_eq_some_iff.mpr ⟨hj, ej⟩
            obtain ⟨l1, g1⟩ := List.getElem?_eq_some_iff.mp ej2
            obtain ⟨l2, g2⟩ := List.getElem?_eq_some_iff.mp ha
            have := (List.getElem_inj S.nd).mp (g1.trans g2.symm)
            omega
          · cases h
      · cases h
theorem thawL_ok (S : SR B ι μ H) : ∀ (k : Nat) {vs : List V} {ds ds' : List D}, Reps B ι H vs ds → thawL μ n k ds = some ds' → Reps B (ι.cut n) H vs ds'
  | 0, _, _, _, _, h => by unfold thawL at h; cases h
  | k + 1, vs, ds, ds', r, h => by
    unfold thawL at h
    split at h
    · rename_i p
      cases h
      exact r.plainCut p
    split at h
    · cases h; cases r; exact .nil
    · obtain ⟨e, h1, h2⟩ := bind_some h
      obtain ⟨es, h3, h4⟩ := Option.map_eq_some_iff.mp h2
      cases h4
      cases r with
      | cons r1 r2 => exact .cons (thaw_ok S k r1 h1) (thawL_ok S k r2 h3)
end
mutual
/-- data that stood before -/
theorem Rep.old {v v' : V} {d : D} (h0 : Rep B ι H v d) (h : Rep B ι' H' v' d) : Rep B (ι'.cut ι.a.length) H' v' d := match d, h0, h with
  | _, _, .non => .non
  | _, _, .bl b => .bl b
  | _, _, .int i => .int i
  | _, _, .str x => .str x
  | _, .lst _ _ r0, .lst e n r => .lst e (cut_out n) (Reps.old r0 r)
  | _, .tup _ r0, .tup e r => .tup e.cut (Reps.old r0 r)
  | _, h0, .fz e r => by
    generalize hd : fz _ = d at h0
    cases h0 with
    | fz e0 r0 =>
      unfold fz at hd
      injection hd with hd
      injection hd with hd _
      injection hd with _ hd
      injection hd with hd
      subst hd
      exact .fz e.cut (Reps.old r0 r)
    | rf _ => unfold rf fz at hd; injection hd with hd; injection hd with hd _; injection hd with _ hd; cases hd
    | _ => exact absurd hd (by unfold fz; intro z; cases z)
  | _, h0, .rf e => by
    generalize hd : rf _ = d at h0
    cases h0 with
    | rf e0 =>
      have e3 := rf_inj hd
      subst e3
      exact .rf (cut_at e (List.getElem?_eq_some_iff.mp e0).1)
    | fz _ _ => unfold rf fz at hd; injection hd with hd; injection hd with hd _; injection hd with _ hd; cases hd
    | _ => exact absurd hd (by unfold rf; intro z; cases z)
theorem Reps.old {vs vs' : List V} {ds : List D} (h0 : Reps B ι H vs ds) (h : Reps B ι' H' vs' ds) : Reps B (ι'.cut ι.a.length) H' vs' ds := match ds, h0, h with
  | _, _, .nil => .nil
  | _, .cons a0 b0, .cons a b => .cons (Rep.old a0 a) (Reps.old b0 b)
end
theorem Flds.old : ∀ {vs vs' : List (Str × V)} {ds : List (Str × D)}, Flds B ι H vs ds → Flds B ι' H' vs' ds → Flds B (ι'.cut ι.a.length) H' vs' ds
  | _, _, _, _, .nil => .nil
  | _, _, _, .cons a0 b0, .cons a b => .cons (a0.old a) (Flds.old b0 b)
/-- the store without what was made since -/
theorem SR.old (S : SR B ι μ H) (S' : SR B ι' μ' H') (F : Fra ι ι' H H') (hp : ∃ ν, μ' = μ ++ ν) : Fra ι ι H H' ∧ SR B ι μ H' ∧ ι'.cut ι.a.length = ι := by
  obtain ⟨ν, rfl⟩ := hp
  obtain ⟨t, et⟩ := F.pre
  have ec : ι'.cut ι.a.length = ι := by
    unfold Ix.cut
    rw [et, F.zz, List.take_left']
    rfl
  refine ⟨⟨⟨[], by simp⟩, rfl, F.keep, fun _ z n => absurd z n⟩, ⟨S.nd, S.len, fun m a o e1 e2 => ?_, fun b hb => ?_⟩, ec⟩
  · have h0 := S.obj m a o e1 e2
    have h1 := S'.obj m a o (F.at e1) (by rw [List.getElem?_append_left (List.getElem?_eq_some_iff.mp e2).1]; exact e2)
    rw [← ec]
    cases o with
    | lst ds => obtain ⟨vs0, _, r0⟩ := h0; obtain ⟨vs, h, r⟩ := h1; exact ⟨vs, h, r0.old r⟩
    | dct kvs => exact h0.elim
    | ins C fs => obtain ⟨dx0, vs0, _, r0⟩ := h0; obtain ⟨dx, vs, h, r⟩ := h1; exact ⟨dx, vs, h, r0.old r⟩
  · obtain ⟨x, n⟩ := S'.zt b (by rw [F.zz]; exact hb)
    exact ⟨x, (S.zt b hb).2⟩
end
def eqFs : List (Str × D) → List (Str × D) → Bool
  | [], es => match es with | [] => true | _ => false
  | (a, b) :: ds, es => match es with | (c, d) :: es => (a == c) && eqD b d && eqFs ds es | _ => false
theorem eqFs_ok : ∀ {d e : List (Str × D)}, eqFs d e = true → d = e
  | [], e, h => by unfold eqFs at h; cases e <;> first | rfl | cases h
  | (a, b) :: ds, e, h => by
    unfold eqFs at h
    cases e with
    | nil => cases h
    | cons e es =>
      obtain ⟨c, d⟩ := e
      obtain ⟨h1, h2⟩ := Bool.and_eq_true_iff.mp h
      obtain ⟨h1, h3⟩ := Bool.and_eq_true_iff.mp h1
      rw [beq_iff_eq.mp h1, eqD_ok h3, eqFs_ok h2]
theorem eqFs_refl : ∀ d : List (Str × D), eqFs d d = true
  | [] => by unfold eqFs; rfl
  | (a, b) :: ds => by unfold eqFs; exact Bool.and_eq_true_iff.mpr ⟨Bool.and_eq_true_iff.mpr ⟨beq_self_eq_true a, eqD_refl b⟩, eqFs_refl ds⟩
def eqO : O → O → Bool
  | .lst xs, e => match e with | .lst ys => eqDs xs ys | _ => false
  | .dct xs, e => match e with | .dct ys => eqDk xs ys | _ => false
  | .ins C xs, e => match e with | .ins D ys => (C == D) && eqFs xs ys | _ => false
theorem eqO_ok {a b : O} (h : eqO a b = true) : a = b := by
  unfold eqO at h
  cases a with
  | lst xs => cases b <;> first | exact congrArg _ (eqDs_ok h) | cases h
  | dct xs => cases b <;> first | exact congrArg _ (eqDk_ok h) | cases h
  | ins C xs =>
    cases b with
    | ins E ys =>
      obtain ⟨h1, h2⟩ := Bool.and_eq_true_iff.mp h
      rw [beq_iff_eq.mp h1, eqFs_ok h2]
    | _ => cases h
theorem eqO_refl (a : O) : eqO a a = true := by
  unfold eqO
  cases a with
  | lst xs => exact eqDs_refl xs
  | dct xs => exact eqDk_refl xs
  | ins C xs => exact Bool.and_eq_true_iff.mpr ⟨beq_self_eq_true C, eqFs_refl xs⟩
/-- the store's objects stand as they were -/
def preO : Sto → Sto → Bool
  | [], _ => true
  | a :: as, bs => match bs with | b :: bs => eqO a b && preO as bs | _ => false
theorem preO_ok : ∀ {a b : Sto}, preO a b = true → ∃ ν, b = a ++ ν
  | [], b, _ => ⟨b, rfl⟩
  | a :: as, b, h => by
    unfold preO at h
    cases b with
    | nil => cases h
    | cons b bs =>
      obtain ⟨h1, h2⟩ := Bool.and_eq_true_iff.mp h
      obtain ⟨ν, e⟩ := preO_ok h2
      exact ⟨ν, by rw [eqO_ok h1, e]; rfl⟩
theorem preO_of : ∀ (a ν : Sto), preO a (a ++ ν) = true
  | [], _ => rfl
  | a :: as, ν => by
    show preO (a :: as) (a :: (as ++ ν)) = true
    unfold preO
    exact Bool.and_eq_true_iff.mpr ⟨eqO_refl a, preO_of as ν⟩
/-- a def that leaves the store as it was: what it hands back is data -/
def pureD (φ : List D → M D) : List D → M D := fun ds μ => (φ ds μ).bind fun p => if preO μ p.2 = true then (thaw p.2 μ.length 100 p.1).map fun d => (d, μ) else none
theorem thaw_plain {μ : Sto} {n k : Nat} {d : D} (h : plain d = true) : thaw μ n (k + 1) d = some d := by
  unfold thaw
  rw [if_pos h]
theorem thaw_rf {μ : Sto} {n m k : Nat} {xs : List D} (hn : n ≤ m) (h : μ[m]? = some (.lst xs)) (hp : plains xs = true) : thaw μ n (k + 2) (rf m) = some (.list xs) := by
  unfold thaw
  rw [if_neg (by show ¬ (plain (.dict _) = true); unfold plain; decide)]
  show (if m < n then _ else _) = _
  rw [if_neg (by omega), h]
  show (thawL μ n (k + 1) xs).map _ = _
  unfold thawL
  rw [if_pos hp]
  rfl
/-- a list that the def made, handed back -/
theorem pureD_lst {φ : List D → M D} {ds : List D} {μ ν : Sto} {m : Nat} {xs : List D} (h : φ ds μ = some (rf m, μ ++ ν)) (hm : μ.length ≤ m) (hx : (μ ++ ν)[m]? = some (.lst xs)) (hp : plains xs = true) : pureD φ ds μ = some (.list xs, μ) := by
  unfold pureD
  rw [h, Option.bind_some, if_pos (preO_of μ ν), thaw_rf hm hx hp]
  rfl
theorem pureD_plain {φ : List D → M D} {ds : List D} {μ ν : Sto} {d : D} (h : φ ds μ = some (d, μ ++ ν)) (hp : plain d = true) : pureD φ ds μ = some (d, μ) := by
  unfold pureD
  rw [h, Option.bind_some, if_pos (preO_of μ ν), thaw_plain hp]
  rfl
theorem pureD_of {φ : List D → M D} {ds : List D} {μ ν : Sto} {d e : D} (h : φ ds μ = some (d, μ ++ ν)) (ht : thaw (μ ++ ν) μ.length 100 d = some e) : pureD φ ds μ = some (e, μ) := by
  unfold pureD
  rw [h, Option.bind_some, if_pos (preO_of μ ν), ht]
  rfl
section
variable {P : Program} {w : World} {K : PySem.W.Frag} {mg : Str → Option Value} {base : Heap}
theorem spD_pure {B : Kx} {φ : List D → M D} {vs : List V} {H : Hp} {Q : VK} {E : XK} (h : spD B (pureD φ) vs H Q E) : spD B φ vs H Q E := by
  obtain ⟨ι, μ, ds, d, μ', S, r, e, k⟩ := h
  obtain ⟨⟨d1, μ1⟩, e1, e⟩ := bind_some e
  dsimp only at e
  split at e
  · rename_i hp
    obtain ⟨d2, h1, h2⟩ := Option.map_eq_some_iff.mp e
    cases h2
    refine ⟨ι, μ, ds, d1, μ1, S, r, e1, fun v ι' H' F S' r' => ?_⟩
    obtain ⟨F2, S2, ec⟩ := S.old S' F (preO_ok hp)
    have r2 := thaw_ok (n := μ.length) S' 100 r' h1
    rw [← S.len, ec] at r2
    exact k v ι H' F2 S2 r2
  · cases e
/-- a def of the text as it stands behind the top, by its name -/
def Fn (K : PySem.W.Frag) (mg : Str → Option Value) (x : Str) (st : Stmt) (ps : List Str) : Prop := ∃ f fd, Fun K x x st f fd ∧ mg x = some (.ref f) ∧ Binds K fd ps []
/-- a def that may be called by its name: it does what φ tells -/
def Cal (P : Program) (w : World) (K : PySem.W.Frag) (mg : Str → Option Value) (base : Heap) (k : Nat) (x : Str) (ps : List Str) (φ : List D → M D) : Prop :=
  ∃ f fd, FnOk P w K mg base CX0 k f fd ps (spD ⟨K, w⟩ φ) ∧ mg x = some (.ref f) ∧ PySem.W.keepIn K (.ref f) = true ∧ Binds K fd ps [] ∧ ∃ oc od osl, K.lookup f = some ⟨oc, od, .func fd, osl⟩
theorem Cal.pure {k : Nat} {x : Str} {ps : List Str} {φ : List D → M D} (c : Cal P w K mg base k x ps φ) : Cal P w K mg base k x ps (pureD φ) := by
  obtain ⟨f, fd, h, r⟩ := c
  exact ⟨f, fd, h.imp fun _ _ _ _ q => spD_pure q, r⟩
theorem Cal.imp {k : Nat} {x : Str} {ps : List Str} {φ ψ : List D → M D} (c : Cal P w K mg base k x ps φ) (h : ∀ ds μ r, ψ ds μ = some r → φ ds μ = some r) : Cal P w K mg base k x ps ψ := by
  obtain ⟨f, fd, F, r⟩ := c
  refine ⟨f, fd, F.imp fun vs H Q E q => ?_, r⟩
  obtain ⟨ι, μ, ds, d, μ', S, rr, e, kk⟩ := q
  exact ⟨ι, μ, ds, d, μ', S, rr, h _ _ _ e, kk⟩
theorem Fn.cal {x : Str} {st : Stmt} {N ps : List Str} {k : Nat} {b : SDen} (F : Fn K mg x st ps) (S : FnScope N ps (defScope st))
    (hbody : ∀ (f : Addr) (cdv : Value) (A : Around) (outer : List PySem.Env) (s : Shared) (H : Hp) (E : XK), Room k (A.deeper (envOfC x (defScope st) s.heap.objs.size f cdv)) → (A.deeper (envOfC x (defScope st) s.heap.objs.size f cdv)).units + 65 < cLine →
      PSs (cxOf CX0 P w K mg base N x (defScope st) f cdv A outer s H E).nox (defBody st) (dS ⟨K, w⟩ b)) : Cal P w K mg base (k + 1) x ps (fDef ps.length N.length b) := by
  obtain ⟨f, fd, F, hm, hb⟩ := F
  exact ⟨f, fd, def_ok F S fun cdv A outer s H E hr => hbody f cdv A outer s H E hr (by have := hr.un; omega), hm, F.kp, hb, by
    obtain ⟨oc, od, kV, doc, pm, an, cdv, ct, osl, _, lk, _⟩ := F.ex
    exact ⟨oc, od, osl, lk⟩⟩
/-- the def at the address that the name tells -/
theorem Cal.at {k : Nat} {x : Str} {ps : List Str} {φ : List D → M D} {f : Addr} {fd : FuncData} {oc : Value} {od : Option Addr} {osl : Array (Option Value)} (c : Cal P w K mg base k x ps φ) (hm : mg x = some (.ref f)) (lk : K.lookup f = some ⟨oc, od, .func fd, osl⟩) : FnOk P w K mg base CX0 k f fd ps (spD ⟨K, w⟩ φ) := by
  obtain ⟨f2, fd2, h, m2, _, _, oc2, od2, osl2, l2⟩ := c
  have e := hm.symm.trans m2
  cases e
  have e2 := lk.symm.trans l2
  cases e2
  exact h
end
section
variable {X : Cx} {k : Nat} {ps : List Str} {φ : List D → M D} {x : Str} {p pos : Pos} {e : Expr} {es : List Expr} {r : DenL}
theorem e_def (c : Cal X.prog X.w X.K X.mg X.base k x ps φ) (hr : Room k X.A) (hg : Gl X x) (ha : PA X (e :: es) (dA (bx X) r)) (hdb : (x == ("__debug__" : Str)) = false := by decide) (he : starEach (e :: es) X.env = (false, eval e X.env) :: starEach es X.env := by rfl) (hpl : (backTo pos (starEach es X.env)).any (·.1) = false := by rfl) :
    PE X (.Call (.Name x p) (e :: es) [] pos) (dE (bx X) (dF φ r)) := by
  obtain ⟨f, fd, F, hm, hk, hb, _⟩ := c
  exact e_call F hr hg hm hk hb pass0 ha hdb he hpl
theorem e_def0 (c : Cal X.prog X.w X.K X.mg X.base k x ps φ) (hr : Room k X.A) (hg : Gl X x) (hdb : (x == ("__debug__" : Str)) = false := by decide) : PE X (.Call (.Name x p) [] [] pos) (dE (bx X) (dF φ dNil)) := by
  obtain ⟨f, fd, F, hm, hk, hb, _⟩ := c
  exact e_call0 F hr hg hm hk hb pass0 hdb
end
end Dn
end

section
set_option maxRecDepth 100000
set_option maxHeartbeats 4000000
/-! Dn12: an own error over OverflowError with one field; raising it; a try that hands its field back -/
namespace Dn
open PySem PySem.Spec PyProof.Rows L2
abbrev ovTail : List Value := [.type "OverflowError", .type "ArithmeticError", .type "Exception", .type "BaseException", .type "object"]
/-- what the written part says of the class at C, its field fld -/
structure LimC (K : PySem.W.Frag) (C : Addr) (fld : Str) : Prop where
  cls : ∃ nm q N bs sn sub ab col dd k0 k1 k2 k3 k5, K.lookup C = some (excClassObj nm q C N bs ovTail true sn sub ab col dd k0 k1 k2 k3 k5 "OverflowError.__new__")
  sa : PySem.W.findIn K (.ref C) "__setattr__" = some (some (.builtin "object.__setattr__"))
  ga : PySem.W.findIn K (.ref C) "__getattribute__" = some (some (.builtin "BaseException.__getattribute__"))
  gg : PySem.W.findIn K (.ref C) "__getattr__" = some none
  noF : PySem.W.findIn K (.ref C) fld = some none
  kC : PySem.W.keepIn K (.ref C) = true
  exC : PySem.W.subIn K (.ref C) (.type "BaseException") = some true
  tyC : PySem.W.typeIn K (.ref C) = some (.type "type")
  hdC : PySem.W.hasDictIn K C = true
  te : PySem.W.exmOne K (.ref C) (.ref C) = some true
theorem typ_OE : typeOf (.type "OverflowError") = pure (.type "type") := by kernel_rfl
section
variable {K : PySem.W.Frag} {C : Addr} {fld : Str}
theorem LimC.is (T : LimC K C fld) : ∃ cd, PySem.W.clsIn K C = some cd ∧ cd.mro = .ref C :: ovTail ∧ cd.hasDict = true := by
  obtain ⟨nm, q, N, bs, sn, sub, ab, col, dd, k0, k1, k2, k3, k5, hC⟩ := T.cls
  exact ⟨_, by unfold PySem.W.clsIn; rw [hC] <;> rfl, rfl, rfl⟩
theorem LimC.over (T : LimC K C fld) : PySem.W.excOver K C ovTail = true := by
  obtain ⟨cd, h, m, _⟩ := T.is
  unfold PySem.W.excOver
  rw [h]
  show (match cd.mro with | .ref C' :: bm => C' == C && PySem.W.excTail ovTail bm | _ => false) = true
  rw [m]
  show (C == C && PySem.W.excTail ovTail ovTail) = true
  rw [beq_self_eq_true, Bool.true_and]
  decide +kernel
theorem LimC.taker (T : LimC K C fld) : PySem.W.takerIn K C fld = some none := by
  unfold PySem.W.takerIn
  rw [T.noF]
  rfl
section
open Builtin Builtin.ObjectAttr
variable {prog : Program} {w : World} {A : Around} {R : Result → Shared → Prop} {hp : Heap} {g : Array GenState} {d : Drawn} {t : Nat} {os : OsState}
theorem ov_osa {tk : Tok} {v : Value} {x : Addr} {fv : Array Value} (X : K.In hp) (hx : hp.get? x = some { cls := .ref C, data := .fields fv }) (T : LimC K C fld)
    (hq : ∀ h' tk' dx, (∀ b o, b ≠ x → hp.get? b = some o → h'.get? b = some o) → hp.objs.size ≤ dx → dx ≠ x → h'.get? x = some { cls := .ref C, dict := some dx, data := .fields fv } →
      h'.Ns1 dx (fun y => if y = fld then some v else none) → R (.ok (.ret .none)) ⟨h', g, d, tk', os⟩) :
    codeAny (model prog w) A (.call (.builtin "object.__setattr__") ⟨[.ref x, .str fld tk, v], []⟩) R ⟨hp, g, d, t, os⟩ := by
  have hxs : x ≠ hp.objs.size := Nat.ne_of_lt (Heap.lt_size hx)
  obtain ⟨cd, hcd, hm, hh⟩ := T.is
  refine PySem.W.osa_openX (od := none) PySem.F.store_OverflowError X ⟨hx, rfl, rfl, trivial⟩ T.over T.taker fun b => ?_
  dsimp only
  have hcls : W.Looks (model prog w) hp (classData C) cd := W.looks_clsIn X hcd
  obtain ⟨nm, bs, mro, ns, qn, hd, sn, sb, ab, col, del⟩ := cd
  dsimp only at hh
  subst hh
  unfold storeInOwnDict ownDictForStores
  repeat (first | with_reducible refine HandSPX.store_in_new ?_ ?_ | with_reducible refine wpAny_loadPart_at hx ?_ | with_reducible refine hcls.at ?_ | wp_step)
  · exact ⟨_, #[], _, (Heap.get?_update_ne _ _ _ _ hxs.symm).trans (Heap.get?_push_at rfl rfl), rfl, fun e he => absurd he (by simp), fun _ => rfl⟩
  · intro h' tk' hn' hs
    have hx₁ : (hp.push { cls := .type "dict", data := .dict #[] }).get? x = some { cls := .ref C, data := .fields fv } := Heap.get?_push_of_some _ hx
    refine hq h' tk' hp.objs.size (fun b o hb ho => ?_) (Nat.le_refl _) hxs.symm ?_ hn'
    · exact (hs.2 b (Nat.ne_of_lt (Heap.lt_size ho))).trans ((Heap.get?_update_ne _ _ _ _ hb).trans (Heap.get?_push_of_some _ ho))
    · exact (hs.2 x hxs).trans (Heap.get?_update_self _ hx₁ rfl)
end
end
section
variable {X : Cx} {pins : List (Addr × Obj)} {σ : L2.St} {H : Hp} {s : Shared} {a C dx : Addr} {fld : Str} {y : V} {u : Value}
theorem lim_store {Q : Unit → Shared → Prop} {E : Value → Shared → Prop} {A : Around} (T : LimC X.K C fld) (I : Inv X pins σ H s) (e : H a = some (exo a C none)) (ry : RelV y u)
    (h : ∀ dx s', H dx = none → dx ≠ a → Inv X pins σ (upd (upd H dx (exd dx [(fld, y)])) a (exo a C (some dx))) s' → Q () s') : wpAny (model X.prog X.w) A (setAttr (.ref a) fld u) Q E s := by
  obtain ⟨t1, ho⟩ := exo_at I.hok e
  obtain ⟨hp, g, d, t, os⟩ := s
  refine PySem.W.set_plain I.kIn (ox := { cls := .ref C, dict := none, data := .fields #[.ref t1, .none, .none, .none, .bool false, .none] }) (od := none) ⟨ho, rfl, rfl, trivial⟩ T.sa ?_
  refine ov_osa I.kIn ho T (fun h' tk' dx k dn dne hx hn => ?_)
  have hnd : H dx = none := I.hok.fresh dn
  have nd : ∀ {b : Addr} {o : Obj}, hp.get? b = some o → b ≠ dx := fun {b o} q => Nat.ne_of_lt (Nat.lt_of_lt_of_le (Heap.lt_size q) dn)
  have na : ∀ {b : Addr}, H b = none → b ≠ a := fun {b} n z => by
    rw [z, e] at n
    cases n
  have U : Un X.fs [] H (upd (upd H dx (exd dx [(fld, y)])) a (exo a C (some dx))) hp h' := {
    keep := fun b o q n _ _ => k b o (na n) q
    slot := fun b o q n _ _ => ⟨o.slots, k b o (na n) q⟩
    free := fun b o q n _ => by rw [upd_ne (na n), upd_ne (nd q)]; exact n
    there := fun b o q _ => by
      by_cases hb : b = a
      · exact ⟨_, by rw [hb]; exact hx⟩
      · exact ⟨o, k b o hb q⟩
    tups := fun b xs q => by rw [upd_ne (at_ne e q exo_tup), upd_ne (ne_of_none q hnd)]; exact q
    frzs := fun b o v q => by rw [upd_ne (at_ne e q exo_frz), upd_ne (ne_of_none q hnd)]; exact q
    tbls := fun b ps q => ⟨#[], by rw [upd_ne (at_ne e q exo_tbl), upd_ne (ne_of_none q hnd), q]; simp⟩ }
  refine h dx _ hnd dne (I.un (t' := tk') U fun b o q => ?_)
  by_cases hb : b = a
  · subst hb
    rw [upd_same] at q
    cases q
    exact exo_ok hx
  · rw [upd_ne hb] at q
    by_cases hd : b = dx
    · subst hd
      rw [upd_same] at q
      cases q
      exact exd_ok hn (relO_put (fs := []) ry fun g => True.intro)
    · rw [upd_ne hd] at q
      exact (I.hok b o q).stay (fun c v hc z => k c v (by
          rcases hc with hc | hc
          · rw [hc]
            exact hb
          · exact at_ne e hc exo_own) z)
        (fun c hc => by rw [upd_ne (at_ne e hc exo_own), upd_ne (ne_of_none hc hnd)]; exact hc) (fun c xs hc => by rw [upd_ne (at_ne e hc exo_tup), upd_ne (ne_of_none hc hnd)]; exact hc)
theorem lim_base {us : List Value} {Q : Value → Shared → Prop} {A : Around} {E : Value → Shared → Prop} (T : LimC X.K C fld) (I : Inv X pins σ H s) (e : H a = some (exo a C none)) (hl : us.length ≤ sizeLine) (h : ∀ s', Inv X pins σ H s' → Q .none s') :
    wpAny (model X.prog X.w) A (call (.builtin "OverflowError.__init__") (.ref a :: us)) Q E s := by
  obtain ⟨nm, q, N, bs, sn, sub, ab, col, dd, k0, k1, k2, k3, k5, hC⟩ := T.cls
  obtain ⟨t1, ho⟩ := exo_at I.hok e
  obtain ⟨hp, g, d, t, os⟩ := s
  refine wpAny_call (PySem.HandSPX.init_base F.excBase_OverflowError (fun Y => rfl) (I.kIn _ _ hC) ho hl fun h' t2 k hx => ?_)
  have J := I.write (t' := t) (x := a) (e := a) (o := exo a C none) (by rw [e]; exact True.intro) (.inl rfl) k ⟨_, hx⟩ (exo_ok hx)
  have eu : upd H a (exo a C none) = H := by
    funext b
    by_cases hb : b = a
    · rw [hb, upd_same, e]
    · rw [upd_ne hb]
  rw [eu] at J
  exact h _ J
end
section
variable {X : Cx} {C : Addr} {fld : Str} {o e : Expr} {es : List Expr} {to te : TE} {ta : TA} {p p' p1 p2 pos : Pos}
def tOvI (C : Addr) (ta : TA) : TE := fun σ H Q => ta σ H fun vs H1 => ∃ (a : Addr) (ws : List V), vs = .ref a :: ws ∧ ws.length ≤ 1000 ∧ H1 a = some (exo a C none) ∧ Q .non H1
theorem pe_ovInit {pl : Sem Bool} (T : LimC X.K C fld) (hg : Gl X "OverflowError") (hm : X.mg "OverflowError" = none) (vV : PySem.W.findCls X.K (.type "OverflowError") (.type "type") "__init__" = some (.val (.builtin "OverflowError.__init__"))) (ha : PA X (e :: es) ta)
    (hc : eval (.Call (.Attribute (.Name "OverflowError" p1) "__init__" p2) (e :: es) [] pos) X.env = (do
      let ov ← eval (.Name "OverflowError" p1) X.env
      standAt p2.atName
      let (f, first) ← holding [ov] (getMethod ov "__init__" pl)
      callWith pos f first (backTo pos (starEach (e :: es) X.env)) (backToKw pos (keywordEach [] X.env))) := by rfl)
    (he : starEach (e :: es) X.env = (false, eval e X.env) :: starEach es X.env := by rfl) (hpl : (backTo pos (starEach es X.env)).any (·.1) = false := by rfl) :
    PE X (.Call (.Attribute (.Name "OverflowError" p1) "__init__" p2) (e :: es) [] pos) (tOvI C ta) := by
  refine ⟨fun pins s σ H Q I h => ?_⟩
  refine PySem.W.methodCall_KW (ld_blt I hg hm PyProof.Rows.Boot.«OverflowError» ?_ (by decide) (by decide)) hc
  obtain ⟨m, fr⟩ := I.fr
  refine PySem.W.method_type fr I.ok.mod.kin typ_OE (by decide +kernel) vV (by decide +kernel) ?_
  show wpAny _ _ (callWith pos (Value.builtin "OverflowError.__init__") [] (backTo pos (starEach (e :: es) X.env)) []) _ _ _
  refine PyProof.Rows.callWith_method1 (thn (ha.run pos pins _ σ H _ (I.tok _) h) fun us s1 ⟨vs, H1, I1, r1, a, ws, ev, hl, ea, q⟩ => ?_) he hpl
  subst ev
  cases r1 with
  | @cons _ u0 _ ur ra rw' =>
    obtain rfl : u0 = Value.ref a := ra
    have hlen : ur.length ≤ sizeLine := by
      rw [← Paired.length rw', sizeLine_eq]
      omega
    exact lim_base T I1 ea hlen fun s' J => ⟨.non, H1, J, rfl, q⟩
def tLimS (C : Addr) (fld : Str) (to te : TE) : TS := fun D σ H => te σ H fun y H1 => to σ H1 fun x H2 => ∃ a : Addr, x = .ref a ∧ H2 a = some (exo a C none) ∧ ∀ dx, H2 dx = none → dx ≠ a → D.nx σ (upd (upd H2 dx (exd dx [(fld, y)])) a (exo a C (some dx)))
theorem ps_limS (T : LimC X.K C fld) (ho : PE X o to) (he : PE X e te) (hs : swapsWith e (some (.Attribute o fld p')) pos.line X.env = pure false := by rfl) : PS X (.Assign [.Attribute o fld p'] e pos) (tLimS C fld to te) := by
  refine ⟨fun pins s σ H D I h => ?_⟩
  refine plainObj_wpAny_Assign_Attribute (thn (he.run pins s σ H _ I h) fun v s1 ⟨y, H1, I1, r1, q1⟩ => thn (ho.run pins s1 σ H1 _ I1 q1) fun u s2 ⟨x, H2, I2, r2, a, ex, ea, q⟩ => ?_) hs
  subst ex
  obtain rfl : u = Value.ref a := r2
  exact lim_store T I2 ea r1 fun dx s' n ne J => ⟨σ, _, J, q dx n ne⟩
/-- what __init__ promises -/
def spLim (C : Addr) (fld : Str) : Sp := fun vs H Q _ => ∃ (a : Addr) (n : Int), vs = [.ref a, .int n] ∧ n.natAbs.log2 < 1920 ∧ n.natAbs < 1000000 ∧ H a = some (exo a C none) ∧
  ∀ dx, H dx = none → dx ≠ a → Q .non (upd (upd H dx (exd dx [(fld, .int n)])) a (exo a C (some dx)))
/-- C(e) -/
theorem pmk_lim {CX : CXT} {x : Str} {fI : Addr} {k : Nat} {fd : FuncData} {ps : List Str} (T : LimC X.K C fld) (iC : PySem.W.findIn X.K (.ref C) "__init__" = some (some (.ref fI))) (tI : PySem.W.typeIn X.K (.ref fI) = some (.type "function"))
    (F1 : FnOk X.prog X.w X.K X.mg X.base CX k fI fd ps (spLim C fld)) (hr : Room (k + 1) X.A) (hb : Binds X.K fd ps []) (hx : Passes CX X (fun _ _ _ => False)) (hg : Gl X x) (hm : X.mg x = some (.ref C)) (ha : PA X (e :: es) ta)
    (hdb : (x == ("__debug__" : Str)) = false := by decide) (he : starEach (e :: es) X.env = (false, eval e X.env) :: starEach es X.env := by rfl) (hpl : (backTo pos (starEach es X.env)).any (·.1) = false := by rfl) :
    PMk X (.Call (.Name x p) (e :: es) [] pos) (tMkO C (spLim C fld) [] ta) := by
  intro pins s σ H Q I h
  obtain ⟨nm, q, N, bs, sn, sub, ab, col, dd, k0, k1, k2, k3, k5, hC⟩ := T.cls
  refine wpAny_Call_Name_kw (ld_glob I hg hm ?_ hdb)
  refine PySem.W.callWith_K (h₀ := X.base) I.ok.mod.kin T.kC (thn (ha.run pos pins s σ H _ I h) fun us s1 ⟨vs, H1, I1, r1, hz, q1⟩ => ⟨I1.kIn, ?_⟩) he hpl
  show wpAny _ _ (call (.ref C) us) _ _ _
  obtain ⟨hp, g, dr, tk, os⟩ := s1
  have hsz : hp.objs.size ≤ hp.objs.size + 1 := Nat.le_succ _
  have hn : H1 (hp.objs.size + 1) = none := I1.hok.fresh hsz
  have hq := q1 (hp.objs.size + 1) hn
  rw [List.append_nil] at hq
  have kk : ∀ b o, hp.get? b = some o → ((hp.push (PySem.W.kdv_tup us)).push (PySem.HandSPX.excO C hp.objs.size)).get? b = some o := fun b o e => Heap.get?_push_of_some _ (Heap.get?_push_of_some _ e)
  have hget : ((hp.push (PySem.W.kdv_tup us)).push (PySem.HandSPX.excO C hp.objs.size)).get? (hp.objs.size + 1) = some (PySem.HandSPX.excO C hp.objs.size) := by heap_get
  have I2 : Inv X pins σ (upd H1 (hp.objs.size + 1) (exo (hp.objs.size + 1) C none)) ⟨(hp.push (PySem.W.kdv_tup us)).push (PySem.HandSPX.excO C hp.objs.size), g, dr, tk, os⟩ :=
    I1.laid (t' := tk) (a := hp.objs.size + 1) (o := exo (hp.objs.size + 1) C none) (h' := (hp.push (PySem.W.kdv_tup us)).push (PySem.HandSPX.excO C hp.objs.size)) kk hsz (exo_ok hget)
  have r2 : Vals (V.ref (hp.objs.size + 1) :: vs) (Value.ref (hp.objs.size + 1) :: us) := .cons rfl r1
  have hl : (Value.ref (hp.objs.size + 1) :: us ++ []).length = ps.length := by
    have e := r2.length
    rw [F1.len _ _ _ _ hq] at e
    rw [List.append_nil]
    exact e.symm
  have hus : us.length ≤ sizeLine := by
    rw [← Paired.length r1, sizeLine_eq]
    omega
  have hbb := hb ⟨(hp.push (PySem.W.kdv_tup us)).push (PySem.HandSPX.excO C hp.objs.size), g, dr, tk, os⟩ (Value.ref (hp.objs.size + 1) :: us) I2.kIn hl
  rw [List.append_nil] at hbb
  refine wpAny_call (PySem.HandSPX.call_own F.excBase_OverflowError (fun Y => rfl) (I1.kIn _ _ hC) (PySem.W.looks_findIn I1.kIn iC) (fun self => PySem.W.bind_fn I1.kIn self tI) hus
    (codeAny_mono (F1.run _ X.stack _ _ ⟨Value.ref (hp.objs.size + 1) :: us, []⟩ (Value.ref (hp.objs.size + 1) :: us) _ _ (fun _ _ _ => False) (hr.make C us []) (I2.env0.make C us []) hbb r2 hq) fun r s' hq' => ?_))
  cases r with
  | error er => exact hx pins σ _ _ er s' I2 hq'
  | ok fl =>
    cases fl with
    | ret u =>
      obtain ⟨v, H2, os2, bare2, un2, hok2, rv, ev, d, fs, ea, ed, hd1, q2⟩ := hq'
      subst ev
      obtain ⟨h2, g2, d2, t2, os'⟩ := s'
      exact ⟨rv, mk_end (raises_own T.exC T.tyC) I1 hsz kk un2 hok2 os2 bare2 ea ed hd1 q2⟩
    | next => exact False.elim hq'
    | brk => exact False.elim hq'
    | cont => exact False.elim hq'
end
end Dn
end

section
set_option maxRecDepth 100000
set_option maxHeartbeats 4000000
/-! Dn13: bodies that may raise the own error; the try that hands its field back -/
namespace Dn
open PySem PySem.Spec PyProof.Rows L2
/-- an end, or the own error with its field -/
abbrev XDen := Env → M (Fl ⊕ (D × Env))
def endX (B : Kx) (C : Addr) (fld : Str) (W : WX) (ι : Ix) (H : Hp) (μ : Sto) (E : Ends) : Fl ⊕ (D × Env) → Prop
  | .inl fl => endS B ι H μ E fl
  | .inr (d, σ) => ∀ τ dx v, Rel B ι σ μ τ H → H dx = some (.xd [(fld, v)]) → Rep B ι H v d → W (.ref C) (some dx) τ H
def dX (B : Kx) (C : Addr) (fld : Str) (W : WX) (f : XDen) : TS := fun E τ H => ∃ ι σ μ r μ', Rel B ι σ μ τ H ∧ f σ μ = some (r, μ') ∧ ∀ ι' H', Fra ι ι' H H' → endX B C fld W ι' H' μ' E r
def xLift (f : SDen) : XDen := fun σ μ => (f σ μ).bind fun p => some (.inl p.1, p.2)
def xSeq (f g : XDen) : XDen := fun σ μ => (f σ μ).bind fun p => match p.1 with
  | .inl (.nx σ') => g σ' p.2
  | r => some (r, p.2)
def xIf (c : DenB) (f g : XDen) : XDen := fun σ μ => (c σ μ).bind fun p => if p.1 = true then f σ p.2 else g σ p.2
def xRaise (f : Den) : XDen := fun σ μ => (f σ μ).bind fun p => match p.1 with
  | .int n => if n.natAbs < 1000000 then some (.inr (.int n, σ), p.2) else none
  | _ => none
def xAsg (φ : List D → M (D ⊕ D)) (r : DenL) (g : Tg) : XDen := fun σ μ => (r σ μ).bind fun p => (φ p.1 p.2).bind fun q => match q.1 with
  | .inl d => (g d σ).bind fun σ' => some (.inl (.nx σ'), q.2)
  | .inr d => some (.inr (d, σ), q.2)
def fDefX (j n : Nat) (b : XDen) : List D → M (D ⊕ D) := fun ds μ => if ds.length = j then (b (start0 n ds) μ).bind fun p => match p.1 with
  | .inl (.rt d) => some (.inl d, p.2)
  | .inl (.nx _) => some (.inl .none, p.2)
  | .inr d => some (.inr d.1, p.2)
  | _ => none
  else none
/-- a try whose clause hands back the error's field; i: the slot of the clause's name -/
def sTryX (i : Nat) (f : XDen) : SDen := fun σ μ => (f σ μ).bind fun p => match p.1 with
  | .inl fl => some (fl, p.2)
  | .inr d => if i < d.2.length then some (.rt d.1, p.2) else none
def spX (B : Kx) (C : Addr) (fld : Str) (φ : List D → M (D ⊕ D)) : Sp := fun vs H Q E => ∃ ι μ ds r μ', SR B ι μ H ∧ Reps B ι H vs ds ∧ φ ds μ = some (r, μ') ∧
  ∀ ι' H', Fra ι ι' H H' → SR B ι' μ' H' → match r with
    | .inl d => ∀ v, Rep B ι' H' v d → Q v H'
    | .inr d => ∀ dx v, H' dx = some (.xd [(fld, v)]) → Rep B ι' H' v d → E (.ref C) (some dx) H'
section
variable {X : Cx} {C : Addr} {fld : Str} {W : WX} {st : Stmt} {rest a b : List Stmt} {pos : Pos}
theorem x_lift {f : SDen} (h : PS X st (dS (bx X) f)) : PS X st (dX (bx X) C fld W (xLift f)) := h.to fun E τ H h => by
  obtain ⟨ι, σ, μ, r, μ', R, e, k⟩ := h
  obtain ⟨⟨fl, μ1⟩, e1, e⟩ := bind_some e
  cases e
  exact ⟨ι, σ, μ, fl, μ1, R, e1, k⟩
theorem xs_lift {f : SDen} (h : PSs X rest (dS (bx X) f)) : PSs X rest (dX (bx X) C fld W (xLift f)) := h.to fun E τ H h => by
  obtain ⟨ι, σ, μ, r, μ', R, e, k⟩ := h
  obtain ⟨⟨fl, μ1⟩, e1, e⟩ := bind_some e
  cases e
  exact ⟨ι, σ, μ, fl, μ1, R, e1, k⟩
theorem xs_one {f : XDen} (h : PS X st (dX (bx X) C fld W f)) : PSs X [st] (dX (bx X) C fld W f) := pss_one h
theorem xs_cons {f g : XDen} (h1 : PS X st (dX (bx X) C fld W f)) (h2 : PSs X rest (dX (bx X) C fld W g)) : PSs X (st :: rest) (dX (bx X) C fld W (xSeq f g)) := (pss_cons h1 h2).to fun E τ H h => by
  obtain ⟨ι, σ, μ, r, μ', R, e, k⟩ := h
  obtain ⟨⟨r1, μ1⟩, e1, e⟩ := bind_some e
  refine ⟨ι, σ, μ, r1, μ1, R, e1, fun ι1 H1 F => ?_⟩
  rcases r1 with (σ1 | d | σ1 | σ1) | ⟨d, σ1⟩
  · exact fun τ1 R1 => ⟨ι1, σ1, μ1, r, μ', R1, e, fun ι2 H2 G => k ι2 H2 (F.trans G)⟩
  · cases e; exact k ι1 H1 F
  · cases e; exact k ι1 H1 F
  · cases e; exact k ι1 H1 F
  · cases e; exact k ι1 H1 F
theorem x_if {c : Expr} {fc : DenB} {f g : XDen} (hc : PT X c (dT (bx X) fc)) (ha : PSs X a (dX (bx X) C fld W f)) (hb : PSs X b (dX (bx X) C fld W g)) : PS X (.If c a b pos) (dX (bx X) C fld W (xIf fc f g)) := (ps_if hc ha hb).to fun E τ H h => by
  obtain ⟨ι, σ, μ, fl, μ', R, e, k⟩ := h
  obtain ⟨⟨d, μ1⟩, e1, e⟩ := bind_some e
  refine ⟨ι, σ, μ, d, μ1, R, e1, fun ι1 H1 F R1 => ?_⟩
  cases d with
  | true => exact ⟨ι1, σ, μ1, fl, μ', R1, e, fun ι2 H2 G => k ι2 H2 (F.trans G)⟩
  | false => exact ⟨ι1, σ, μ1, fl, μ', R1, e, fun ι2 H2 G => k ι2 H2 (F.trans G)⟩
theorem log_small {n : Nat} (h : n < 1000000) : n.log2 < 1920 := by
  by_cases hz : n = 0
  · rw [hz]; decide
  · exact Nat.lt_trans ((Nat.log2_lt hz).mpr (Nat.lt_of_lt_of_le h (by decide : 1000000 ≤ 2 ^ 20))) (by decide)
theorem x_raise {CX : CXT} {x : Str} {fI : Addr} {k : Nat} {fd : FuncData} {ps : List Str} {e : Expr} {fe : Den} {p pos pos2 : Pos} (hc : X.calm = true) (tk : Takes X W) (T : LimC X.K C fld) (iC : PySem.W.findIn X.K (.ref C) "__init__" = some (some (.ref fI))) (tI : PySem.W.typeIn X.K (.ref fI) = some (.type "function"))
    (F1 : FnOk X.prog X.w X.K X.mg X.base CX k fI fd ps (spLim C fld)) (hr : Room (k + 1) X.A) (hb : L2.Binds X.K fd ps []) (hx : Passes CX X (fun _ _ _ => False)) (hg : Gl X x) (hm : X.mg x = some (.ref C)) (he : PE X e (dE (bx X) fe))
    (hdb : (x == ("__debug__" : Str)) = false := by decide) (hs : starEach (e :: []) X.env = (false, eval e X.env) :: starEach [] X.env := by rfl) (hpl : (backTo pos (starEach [] X.env)).any (·.1) = false := by rfl) :
    PS X (.Raise (some (.Call (.Name x p) [e] [] pos)) none pos2) (dX (bx X) C fld W (xRaise fe)) := (ps_raise hc tk (pmk_lim T iC tI F1 hr hb hx hg hm (pa_cons he pa_nil hs) hdb hs hpl)).to fun E τ H h => by
  obtain ⟨ι, σ, μ, r, μ', R, e, kk⟩ := h
  obtain ⟨⟨d, μ1⟩, e1, e⟩ := bind_some e
  dsimp only at e
  split at e
  · rename_i n
    split at e
    · rename_i hn
      cases e
      refine ⟨ι, σ, μ, .int n, μ', R, e1, fun v ι1 H1 F R1 r1 => ?_⟩
      cases r1
      refine ⟨show 1 ≤ 1000 by decide, fun a0 ha => ?_⟩
      refine ⟨a0, n, rfl, log_small hn, hn, upd_same, fun dx hdx ne => ?_⟩
      rw [upd_ne ne] at hdx
      refine ⟨rfl, dx, [(fld, V.int n)], upd_same, ?_, hdx, ?_⟩
      · rw [upd_ne ne, upd_same]
      · have eH : upd (del (upd (upd (upd H1 a0 (exo a0 C none)) dx (exd dx [(fld, V.int n)])) a0 (exo a0 C (some dx))) a0) dx (.xd [(fld, V.int n)]) = upd H1 dx (.xd [(fld, V.int n)]) := by
          funext b
          by_cases hb : b = dx
          · rw [hb, upd_same, upd_same]
          · rw [upd_ne hb, upd_ne hb]
            by_cases hb2 : b = a0
            · rw [hb2, del_same, ha]
            · rw [del_ne hb2, upd_ne hb2, upd_ne hb, upd_ne hb2]
        rw [eH]
        exact kk ι1 _ (F.trans (R1.sr.fra hdx)) τ dx (.int n) (R1.mono (R1.sr.fra hdx) (R1.sr.fresh hdx)) upd_same (.int n)
    · cases e
  · cases e
theorem x_asg {k : Nat} {f : Addr} {fd : FuncData} {ps : List Str} {φ : List D → M (D ⊕ D)} {x : Str} {p cp : Pos} {e tg : Expr} {es : List Expr} {r : DenL} {ws : List Nat} {g : Tg}
    (F : FnOk X.prog X.w X.K X.mg X.base (L2.CX X.prog X.w) k f fd ps (spX (bx X) C fld φ)) (hr : Room k X.A) (hg : Gl X x) (hm : X.mg x = some (.ref f)) (hk : PySem.W.keepIn X.K (.ref f) = true) (hb : L2.Binds X.K fd ps []) (tk : Takes X W)
    (ha : PA X (e :: es) (dA (bx X) r)) (ht : PG X tg (dG (bx X) ws g)) (hdb : (x == ("__debug__" : Str)) = false := by decide) (he : starEach (e :: es) X.env = (false, eval e X.env) :: starEach es X.env := by rfl) (hpl : (backTo cp (starEach es X.env)).any (·.1) = false := by rfl)
    (hs : swapsWithSole [tg] (.Call (.Name x p) (e :: es) [] cp) pos.line X.env = pure false := by rfl) (hw : swappedStores [tg] (.Call (.Name x p) (e :: es) [] cp) X.env = pure none := by rfl) (h1 : (assignEach [tg] X.env).map (·.2) = [assign tg X.env] := by rfl) :
    PS X (.Assign [tg] (.Call (.Name x p) (e :: es) [] cp) pos) (dX (bx X) C fld W (xAsg φ r g)) := (ps_asg (pe_callS F hr hg hm hk hb (fun σ => passAt tk σ) ha hdb he hpl) ht hs hw h1).to fun E τ H h => by
  obtain ⟨ι, σ, μ, r0, μ', R, e, kk⟩ := h
  obtain ⟨⟨ds, μ1⟩, e1, e⟩ := bind_some e
  obtain ⟨⟨q, μ2⟩, e2, e⟩ := bind_some e
  refine ⟨ι, σ, μ, ds, μ1, R, e1, fun vs ι1 H1 F1 R1 r1 => ⟨ι1, μ1, ds, q, μ2, R1.sr, r1, e2, fun ι2 H2 F2 S2 => ?_⟩⟩
  cases q with
  | inl d =>
    obtain ⟨σ1, e3, e⟩ := bind_some e
    cases e
    exact fun v rv => ⟨ι2, σ, _, d, σ1, R1.mono F2 S2, rv, e3, fun τ2 R2 _ _ => kk ι2 H2 (F1.trans F2) τ2 R2⟩
  | inr d =>
    cases e
    exact fun dx v hd rv => kk ι2 H2 (F1.trans F2) τ dx v (R1.mono F2 S2) hd rv
/-- the field of the error that the suite holds -/
def tFld (C : Addr) (fld : Str) (a : Addr) (cls : Value) (d : Option Addr) (te : TE) : TE := fun σ H Q => te σ H fun x H1 => x = .ref a ∧ cls = .ref C ∧ ∃ (dd : Addr) (v : V), d = some dd ∧ H1 dd = some (.xd [(fld, v)]) ∧ Q v H1
theorem pe_fld {a : Addr} {oe : Obj} {cls : Value} {d : Option Addr} {pn : List (Addr × Obj)} {e : Expr} {te : TE} {pos : Pos} (T : LimC X.K C fld) (hz : Zc cls d oe) (hf : ∃ vs, oe.data = .fields vs) (he : PE (X.suite a ((a, oe) :: pn)) e te)
    (hb : attributeBase e fld X.env (eval e X.env) = eval e X.env := by rfl) : PE (X.suite a ((a, oe) :: pn)) (.Attribute e fld pos) (tFld C fld a cls d te) := by
  refine ⟨fun pins s σ H Q I h => ?_⟩
  refine attr_of hb (thn (he.run pins s σ H _ I h) fun u s1 hh => ?_)
  obtain ⟨x, H1, I1, rx, ex, ec, dd, v, ed, ea, q⟩ := hh
  subst ex
  obtain rfl : u = Value.ref a := rx
  subst ec
  subst ed
  obtain ⟨ha, _⟩ := I1.pin (a, oe) (List.mem_append_left _ List.mem_cons_self)
  obtain ⟨vs, hd⟩ := hf
  have hx : ObjOk X.prog X.w H1 s1.heap dd (.xd [(fld, v)]) := I1.hok dd _ ea
  obtain ⟨mA, hns, hr⟩ := hx
  obtain ⟨od, ho, hl⟩ := lookIn_ns hns
  have l : List.lookup fld [(fld, v)] = some v := by simp [List.lookup]
  obtain ⟨u, hu, ru⟩ := RelO.some_of (v := v) (o := mA fld) (by rw [← l]; exact hr fld)
  have J : PySem.W.InstAt s1.heap a oe C (some od) := ⟨ha, hz.1, by unfold PySem.W.notCls; rw [hd] <;> rfl, by rw [hz.2]; exact ho⟩
  exact HandSPX.exc_get I1.kIn J T.ga T.gg T.exC (PySem.W.findObj_own T.hdC T.noF rfl (by rw [hl, hu])) (handed_of ru) ⟨v, H1, I1.tok _, ru, q⟩
theorem s_tryX {x n : Str} {i : Nat} {body : List Stmt} {np pos pos' p1 p2 p3 : Pos} {f : XDen} (T : LimC X.K C fld) (hs : X.stack = X.env :: X.outer) (hf : X.env.frame = some X.env.locals) (hN : X.N.Nodup) (hi : X.N[i]? = some n) (hln : X.env.kindOf n = some .local) (hc : Names X x (.ref C))
    (hb : ∀ (W : WX) (pn : List (Addr × Obj)) (xe : Value → Shared → Prop), Takes (X.tr pn xe) W → PSs (X.tr pn xe) body (dX (bx X) C fld W f))
    (hv : Vis X.env.scope n := by first | exact Or.inl rfl | exact Or.inr (Or.inl rfl) | exact Or.inr (Or.inr rfl)) (hd : (n == ("__debug__" : Str)) = false := by decide) (hcd : (n == ("__classdict__" : Str)) = false := by decide)
    (hbb : attributeBase (.Name n p1) fld X.env (eval (.Name n p1) X.env) = eval (.Name n p1) X.env := by rfl) :
    PS X (.Try body [.ExceptHandler (some (.Name x np)) (some n) [.Return (some (.Attribute (.Name n p1) fld p2)) p3] pos'] [] [] pos) (dS (bx X) (sTryX i f)) :=
  (ps_try_as (i := i) (tb := fun W => dX (bx X) C fld W f) (ts := fun a cls d => tRet (tFld C fld a cls d (tVar i))) (Wout := fun _ _ _ _ => False) hs hf hN hi hln hc takes0 (fun W pn xe tk _ => hb W pn xe tk)
    (fun a oe cls d pn hz hff => pss_one (ps_ret (pe_fld T hz hff (pe_var hi hv hd hcd) hbb)))).to fun E τ H h => by
  obtain ⟨ι, σ, μ, fl, μ', R, e, k⟩ := h
  obtain ⟨⟨r, μ1⟩, e1, e⟩ := bind_some e
  refine ⟨ι, σ, μ, r, μ1, R, e1, fun ι1 H1 F => ?_⟩
  cases r with
  | inl fl1 => cases e; exact k ι1 H1 F
  | inr d =>
    obtain ⟨d, σ1⟩ := d
    dsimp only at e
    split at e
    · rename_i hl
      cases e
      refine fun τ1 dx v R1 hdx rv => ⟨true, T.te, fun _ a0 ha0 => ?_, fun z => Bool.noConfusion z⟩
      refine ⟨_, List.getElem?_set_self (by rw [← R1.len]; exact hl), rfl, rfl, dx, v, rfl, hdx, ?_⟩
      exact k ι1 H1 F v R1.sr rv
    · cases e
end
section
variable {P : Program} {w : World} {K : PySem.W.Frag} {mg : Str → Option Value} {base : Heap}
theorem fDefX_len {j n : Nat} {b : XDen} {ds : List D} {μ : Sto} {r : (D ⊕ D) × Sto} (h : fDefX j n b ds μ = some r) : ds.length = j := by
  unfold fDefX at h
  split at h
  · assumption
  · cases h
theorem defX_ok {x qual : Str} {st : Stmt} {f : Addr} {fd : FuncData} {N ps : List Str} {k : Nat} {C : Addr} {fld : Str} {b : XDen} (F : Fun K x qual st f fd) (S : FnScope N ps (defScope st))
    (hbody : ∀ (cdv : Value) (A : Around) (outer : List PySem.Env) (s : Shared) (H : Hp) (E : XK), Room k (A.deeper (envOfC qual (defScope st) s.heap.objs.size f cdv)) →
      PSs (cxOf (L2.CX P w) P w K mg base N qual (defScope st) f cdv A outer s H E) (defBody st) (dX ⟨K, w⟩ C fld (fun cls d _ H => E cls d H) b)) : FnOk P w K mg base (L2.CX P w) (k + 1) f fd ps (spX ⟨K, w⟩ C fld (fDefX ps.length N.length b)) := by
  refine F.okX S (fun vs H Q E h => ?_) (fun cdv A outer s H vs Q E hr h => ?_)
  · obtain ⟨ι, μ, ds, d, μ', S, r, e, q⟩ := h
    rw [r.length, fDefX_len e]
  · obtain ⟨ι, μ, ds, d, μ', S, r, e, q⟩ := h
    have hl := fDefX_len e
    unfold fDefX at e
    rw [if_pos hl] at e
    refine ⟨_, hbody cdv A outer s H E hr, ι, start0 N.length ds, μ, ?_⟩
    obtain ⟨⟨fl, μ1⟩, e1, e2⟩ := bind_some e
    refine ⟨fl, μ1, rel_start S r N, e1, fun ι1 H1 F1 => ?_⟩
    rcases fl with (σ' | d' | _ | _) | ⟨d', σ'⟩
    · cases e2
      exact fun τ R => q ι1 H1 F1 R.sr .non .non
    · cases e2
      exact fun v S1 r1 => q ι1 H1 F1 S1 v r1
    · cases e2
    · cases e2
    · cases e2
      exact fun τ dx v R hd rv => q ι1 H1 F1 R.sr dx v hd rv
end
end Dn
end

section
set_option maxRecDepth 100000
set_option maxHeartbeats 4000000
/-! Dn14: defs that raise, by names; a def of which nothing is told -/
namespace Dn
open PySem PySem.Spec PyProof.Rows L2
/-- the own error as the top has written it -/
structure LimF (P : Program) (w : World) (K : PySem.W.Frag) (mg : Str → Option Value) (base : Heap) (x fld : Str) (C : Addr) : Prop where
  lim : LimC K C fld
  gC : mg x = some (.ref C)
  ini : ∃ fI fd, PySem.W.findIn K (.ref C) "__init__" = some (some (.ref fI)) ∧ PySem.W.typeIn K (.ref fI) = some (.type "function") ∧ FnOk P w K mg base CX0 1 fI fd ["self", fld] (spLim C fld) ∧ L2.Binds K fd ["self", fld] []
def CalX (P : Program) (w : World) (K : PySem.W.Frag) (mg : Str → Option Value) (base : Heap) (k : Nat) (x : Str) (ps : List Str) (C : Addr) (fld : Str) (φ : List D → M (D ⊕ D)) : Prop :=
  ∃ f fd, FnOk P w K mg base (L2.CX P w) k f fd ps (spX ⟨K, w⟩ C fld φ) ∧ mg x = some (.ref f) ∧ PySem.W.keepIn K (.ref f) = true ∧ L2.Binds K fd ps []
section
variable {P : Program} {w : World} {K : PySem.W.Frag} {mg : Str → Option Value} {base : Heap} {C : Addr} {fld : Str}
theorem Fn.calX {x : Str} {st : Stmt} {N ps : List Str} {k : Nat} {b : XDen} (F : Fn K mg x st ps) (S : FnScope N ps (defScope st))
    (hbody : ∀ (f : Addr) (cdv : Value) (A : Around) (outer : List PySem.Env) (s : Shared) (H : Hp) (E : XK), Room k (A.deeper (envOfC x (defScope st) s.heap.objs.size f cdv)) → (A.deeper (envOfC x (defScope st) s.heap.objs.size f cdv)).units + 65 < cLine →
      PSs (cxOf (L2.CX P w) P w K mg base N x (defScope st) f cdv A outer s H E) (defBody st) (dX ⟨K, w⟩ C fld (fun cls d _ H => E cls d H) b)) : CalX P w K mg base (k + 1) x ps C fld (fDefX ps.length N.length b) := by
  obtain ⟨f, fd, F, hm, hb⟩ := F
  exact ⟨f, fd, defX_ok F S fun cdv A outer s H E hr => hbody f cdv A outer s H E hr (by have := hr.un; omega), hm, F.kp, hb⟩
theorem Cal.as {k : Nat} {x : Str} {ps : List Str} {φ ψ : List D → M D} (c : Cal P w K mg base k x ps φ) (h : φ = ψ) : Cal P w K mg base k x ps ψ := h ▸ c
theorem CalX.as {k : Nat} {x : Str} {ps : List Str} {φ ψ : List D → M (D ⊕ D)} (c : CalX P w K mg base k x ps C fld φ) (h : φ = ψ) : CalX P w K mg base k x ps C fld ψ := h ▸ c
theorem Fn.none {x : Str} {st : Stmt} {N ps : List Str} (F : Fn K mg x st ps) (S : FnScope N ps (defScope st)) : Cal P w K mg base 1 x ps (fun _ _ => .none) := by
  refine Cal.imp (F.cal (k := 0) (b := fun _ _ => .none) S fun f cdv A outer s H E hr hu => ⟨fun pins s τ H E I h => ?_⟩) fun ds μ r e => by cases e
  obtain ⟨_, _, _, _, _, _, e, _⟩ := h
  cases e
end
section
variable {X : Cx} {C : Addr} {fld : Str} {W : WX} {pos : Pos}
theorem x_def {k : Nat} {ps : List Str} {φ : List D → M (D ⊕ D)} {x : Str} {p cp : Pos} {e tg : Expr} {es : List Expr} {r : DenL} {ws : List Nat} {g : Tg}
    (c : CalX X.prog X.w X.K X.mg X.base k x ps C fld φ) (hr : Room k X.A) (hg : Gl X x) (tk : Takes X W)
    (ha : PA X (e :: es) (dA (bx X) r)) (ht : PG X tg (dG (bx X) ws g)) (hdb : (x == ("__debug__" : Str)) = false := by decide) (he : starEach (e :: es) X.env = (false, eval e X.env) :: starEach es X.env := by rfl) (hpl : (backTo cp (starEach es X.env)).any (·.1) = false := by rfl)
    (hs : swapsWithSole [tg] (.Call (.Name x p) (e :: es) [] cp) pos.line X.env = pure false := by rfl) (hw : swappedStores [tg] (.Call (.Name x p) (e :: es) [] cp) X.env = pure none := by rfl) (h1 : (assignEach [tg] X.env).map (·.2) = [assign tg X.env] := by rfl) :
    PS X (.Assign [tg] (.Call (.Name x p) (e :: es) [] cp) pos) (dX (bx X) C fld W (xAsg φ r g)) := by
  obtain ⟨f, fd, F, hm, hk, hb⟩ := c
  exact x_asg F hr hg hm hk hb tk ha ht hdb he hpl hs hw h1
theorem x_rais {x : Str} {e : Expr} {fe : Den} {p pos2 : Pos} (L : LimF X.prog X.w X.K X.mg X.base x fld C) (hc : X.calm = true) (tk : Takes X W) (hr : Room 2 X.A) (hg : Gl X x) (he : PE X e (dE (bx X) fe))
    (hdb : (x == ("__debug__" : Str)) = false := by decide) (hs : starEach (e :: []) X.env = (false, eval e X.env) :: starEach [] X.env := by rfl) (hpl : (backTo pos (starEach [] X.env)).any (·.1) = false := by rfl) :
    PS X (.Raise (some (.Call (.Name x p) [e] [] pos)) none pos2) (dX (bx X) C fld W (xRaise fe)) := by
  obtain ⟨fI, fd, h1, h2, h3, h4⟩ := L.ini
  exact x_raise hc tk L.lim h1 h2 h3 hr h4 pass0 hg L.gC he hdb hs hpl
end
end Dn
end

section
set_option maxRecDepth 100000
set_option maxHeartbeats 4000000
/-! Dn15: from the head's facts to the defs; the own error's class; the law's promise -/
namespace Dn
open PySem PySem.Spec PyProof.Rows L2
def mkD (x : Str) (st : Stmt) : He.DefD := ⟨(x, none), x, x, defArgs st, defBody st, defScope st, [], []⟩
def mkM (C m qual : Str) (st : Stmt) : He.DefD := ⟨(C, some m), m, qual, defArgs st, defBody st, defScope st, [], []⟩
section
variable {K : PySem.W.Frag} {mg : Str → Option Value} {x qual : Str} {st : Stmt} {f : Addr} {fd : FuncData} {ps : List Str}
theorem fun_says (F : FunD K x qual (defArgs st) (defBody st) (defScope st) [] [] f fd) : Fun K x qual st f fd := by
  obtain ⟨oc, od, dV, kV, doc, pm, an, cdv, ct, osl, e, lk, hc, hD, _⟩ := F.ex
  have e0 : dV = .none := by
    rcases hD with ⟨_, e⟩ | ⟨n, _⟩
    · exact e
    · exact absurd rfl n
  subst e0
  exact ⟨⟨oc, od, kV, doc, pm, an, cdv, ct, osl, e, lk, hc⟩, F.kp⟩
theorem fn_says {h : Heap} {fa : List He.Fa} {fn : List He.DefD} (X : K.In h) (G : h.Ns mainGlobals mg) (c : He.SaysD fa fn K) (x : Str) (st : Stmt) (ps : List Str) (hd : mkD x st ∈ fn) (hf : He.Fa.glo x ∈ fa)
    (hb : ∀ (kV doc pm : Value) (an : Option Addr) (cdv ct : Value) (us : List Value), us.length = ps.length → bindArgs (PySem.W.fnOf x x (defArgs st) (defBody st) (defScope st) .none kV doc pm an cdv ct) ⟨us, []⟩ = pure (ps.zip us)) : Fn K mg x st ps := by
  obtain ⟨fd, F⟩ := He.SaysD.defs c hd
  have F2 := fun_says F
  exact ⟨_, fd, F2, He.glo_ok X G (He.SaysD.facts c hf), F2.binds hb⟩
/-! ### the class over OverflowError -/
def limCls (K : PySem.W.Frag) (C : Addr) : Bool := match K.lookup C with
  | some ⟨.type "type", _, .cls cd, sl⟩ => (match cd.mro, sl.toList with
    | .ref C' :: bm, [_, _, _, _, some (.builtin n), _] => C' == C && n == "OverflowError.__new__" && !cd.hasDel && cd.hasDict && bm == ovTail
    | _, _ => false)
  | _ => false
theorem limCls_of {C : Addr} (q : limCls K C = true) : ∃ nm qn N bs sn sub ab col dd k0 k1 k2 k3 k5, K.lookup C = some (excClassObj nm qn C N bs ovTail true sn sub ab col dd k0 k1 k2 k3 k5 "OverflowError.__new__") := by
  unfold limCls at q
  split at q
  · rename_i dd cd sl ho
    split at q
    · rename_i C' bm k0 k1 k2 k3 n k5 hm hs
      simp only [Bool.and_eq_true, beq_iff_eq, Bool.not_eq_true'] at q
      obtain ⟨⟨⟨⟨rfl, rfl⟩, hdel⟩, hdict⟩, ht⟩ := q
      subst ht
      obtain ⟨nm, bs, mro, ns, qn, hd, sn, sub, ab, col, del⟩ := cd
      dsimp only at hm hdel hdict
      subst hm hdel hdict
      have hsl : sl = #[k0, k1, k2, k3, some (.builtin "OverflowError.__new__"), k5] := by
        obtain ⟨l⟩ := sl
        simp only at hs
        rw [hs]
      subst hsl
      exact ⟨nm, qn, ns, bs, sn, sub, ab, col, dd, k0, k1, k2, k3, k5, ho⟩
    · cases q
  · cases q
def limB (K : PySem.W.Frag) (x fld : Str) : Bool := limCls K (He.ga K x) && (He.eqO (PySem.W.findIn K (.ref (He.ga K x)) "__setattr__") (some (some (.builtin "object.__setattr__"))) &&
  (He.eqO (PySem.W.findIn K (.ref (He.ga K x)) "__getattribute__") (some (some (.builtin "BaseException.__getattribute__"))) && (He.eqO (PySem.W.findIn K (.ref (He.ga K x)) "__getattr__") (some none) && (He.eqO (PySem.W.findIn K (.ref (He.ga K x)) fld) (some none) &&
  (PySem.W.keepIn K (.ref (He.ga K x)) && (decide (PySem.W.subIn K (.ref (He.ga K x)) (.type "BaseException") = some true) && (decide (PySem.W.typeIn K (.ref (He.ga K x)) = some (.type "type")) && (PySem.W.hasDictIn K (He.ga K x) && (decide (PySem.W.exmOne K (.ref (He.ga K x)) (.ref (He.ga K x)) = some true) &&
  (He.eqO (PySem.W.findIn K (.ref (He.ga K x)) "__init__") (some (some (.ref (He.ma K (He.ga K x) "__init__")))) && decide (PySem.W.typeIn K (.ref (He.ma K (He.ga K x) "__init__")) = some (.type "function"))))))))))))
theorem limB_ok {x fld : Str} (h : limB K x fld = true) : LimC K (He.ga K x) fld ∧ PySem.W.findIn K (.ref (He.ga K x)) "__init__" = some (some (.ref (He.ma K (He.ga K x) "__init__"))) ∧ PySem.W.typeIn K (.ref (He.ma K (He.ga K x) "__init__")) = some (.type "function") := by
  obtain ⟨h1, h⟩ := He.ba h
  obtain ⟨h2, h⟩ := He.ba h
  obtain ⟨h3, h⟩ := He.ba h
  obtain ⟨h4, h⟩ := He.ba h
  obtain ⟨h5, h⟩ := He.ba h
  obtain ⟨h6, h⟩ := He.ba h
  obtain ⟨h7, h⟩ := He.ba h
  obtain ⟨h8, h⟩ := He.ba h
  obtain ⟨h9, h⟩ := He.ba h
  obtain ⟨h10, h⟩ := He.ba h
  obtain ⟨h11, h12⟩ := He.ba h
  exact ⟨⟨limCls_of h1, He.eqO_ok h2, He.eqO_ok h3, He.eqO_ok h4, He.eqO_ok h5, h6, of_decide_eq_true h7, of_decide_eq_true h8, h9, of_decide_eq_true h10⟩, He.eqO_ok h11, of_decide_eq_true h12⟩
/-- the text of that __init__ -/
theorem lim_init {P : Program} {w : World} {base : Heap} {C : Addr} {fld qual : Str} {st : Stmt} {f : Addr} {fd : FuncData} (T : LimC K C fld) (F : Fun K "__init__" qual st f fd) (S : FnScope ["self", fld] ["self", fld] (defScope st))
    (hbody : ∀ (cdv : Value) (A : Around) (outer : List PySem.Env) (s : Shared) (H : Hp) (E : XK), ∃ msg : Str, msg.length ≤ 1000 ∧
      PSs (cxOf CX0 P w K mg base ["self", fld] qual (defScope st) f cdv A outer s H E).nox (defBody st) (tSeq (tDrop (tOvI C (tCons (tVar 0) (tCons (fun σ H Q => tJs [tC (.str msg), tFmt (tVar 1)] Str.empty σ H fun out H1 => Q (.str out) H1) tNil)))) (tLimS C fld (tVar 0) (tVar 1)))) :
    FnOk P w K mg base CX0 1 f fd ["self", fld] (spLim C fld) := by
  refine F.ok S (fun vs H Q E h => ?_) (fun cdv A outer s H vs Q E hr h => ?_)
  · obtain ⟨a, n, rfl, _⟩ := h
    rfl
  · obtain ⟨msg, hm, hb⟩ := hbody cdv A outer s H E
    refine ⟨_, hb, ?_⟩
    obtain ⟨a, n, rfl, hn1, hn2, ha, k⟩ := h
    have hlen : (Str.ofString (toString n)).length ≤ 7 := by
      rw [PySem.ofString_length]
      exact int_text_length_le10 (k := 6) (by decide) hn2
    have hz : ∀ x : Nat, x ≤ 2000 → x ≤ sizeLine := fun x hx => by rw [sizeLine_eq]; omega
    have l0 : (Str.empty : Str).length = 0 := rfl
    refine ⟨_, rfl, msg, rfl, hz _ (by rw [Str.length_append, l0]; omega), _, rfl, .inr ⟨n, rfl, hn1, _, rfl, hz _ (by rw [Str.length_append, Str.length_append, l0]; show 0 + msg.length + (Str.ofString (toString n)).length ≤ 2000; omega), ?_⟩⟩
    exact ⟨a, _, rfl, (show 1 ≤ 1000 by decide), ha, _, rfl, _, rfl, a, rfl, ha, k⟩
end
end Dn
end

section
set_option maxRecDepth 100000
set_option maxHeartbeats 4000000
/-! Mi1: loops by mirrors -/
namespace Dn
open PySem
theorem okB_none {xs : List D} {μ : Sto} : (⟨xs, none⟩ : Src).okB μ = true := rfl
/-- a comprehension over a mapped list -/
theorem lcLoop_map {α : Type} {g : Tg} {c : DenB} {f : Den} {s : Src} {σ : Env} {μ : Sto} (hs : s.okB μ = true) (a b : α → D) : ∀ (l : List α) (acc : List D), acc.length + l.length ≤ lim →
    (∀ x ∈ l, ∃ σ1, g (a x) σ = some σ1 ∧ c σ1 μ = some (true, μ) ∧ f σ1 μ = some (b x, μ)) → lcLoop g c f s σ (l.map a) acc μ = some (acc ++ l.map b, μ)
  | [], acc, _, _ => by
    show lcLoop g c f s σ [] acc μ = _
    unfold lcLoop
    rw [if_pos hs, List.map_nil, List.append_nil]
  | x :: l, acc, hl, h => by
    obtain ⟨σ1, h1, h2, h3⟩ := h x List.mem_cons_self
    have hl : acc.length + (l.length + 1) ≤ lim := hl
    show lcLoop g c f s σ (a x :: l.map a) acc μ = _
    unfold lcLoop
    rw [if_pos hs, h1, Option.bind_some, h2, Option.bind_some, if_pos rfl, h3, Option.bind_some, if_pos (by omega)]
    rw [lcLoop_map hs a b l (acc ++ [b x]) (by rw [List.length_append, List.length_singleton]; omega) fun y hy => h y (List.mem_cons_of_mem _ hy)]
    simp
/-- a comprehension with a test over a mapped list -/
theorem lcLoop_filter {α : Type} {g : Tg} {c : DenB} {f : Den} {s : Src} {σ : Env} {μ : Sto} (hs : s.okB μ = true) (a b : α → D) (p : α → Bool) : ∀ (l : List α) (acc : List D), acc.length + l.length ≤ lim →
    (∀ x ∈ l, ∃ σ1, g (a x) σ = some σ1 ∧ c σ1 μ = some (p x, μ) ∧ (p x = true → f σ1 μ = some (b x, μ))) → lcLoop g c f s σ (l.map a) acc μ = some (acc ++ (l.filter p).map b, μ)
  | [], acc, _, _ => by
    show lcLoop g c f s σ [] acc μ = _
    unfold lcLoop
    rw [if_pos hs, List.filter_nil, List.map_nil, List.append_nil]
  | x :: l, acc, hl, h => by
    obtain ⟨σ1, h1, h2, h3⟩ := h x List.mem_cons_self
    have hl : acc.length + (l.length + 1) ≤ lim := hl
    show lcLoop g c f s σ (a x :: l.map a) acc μ = _
    unfold lcLoop
    rw [if_pos hs, h1, Option.bind_some, h2, Option.bind_some]
    dsimp only
    by_cases hp : p x = true
    · rw [if_pos hp, h3 hp, Option.bind_some, if_pos (by omega)]
      rw [lcLoop_filter hs a b p l (acc ++ [b x]) (by rw [List.length_append, List.length_singleton]; omega) fun y hy => h y (List.mem_cons_of_mem _ hy)]
      rw [List.filter_cons, if_pos hp]
      simp
    · rw [if_neg hp]
      rw [lcLoop_filter hs a b p l acc (by omega) fun y hy => h y (List.mem_cons_of_mem _ hy)]
      rw [List.filter_cons, if_neg hp]
/-- a for over a mapped list, state by state -/
theorem sLoop_fold {α S : Type} {g : Tg} {b : SDen} {s : Src} (a : α → D) (e : S → Env) (m : S → Sto) (step : S → α → S) : ∀ (l : List α) (s0 : S), (∀ t, s.okB (m t) = true) →
    (∀ x ∈ l, ∀ t, ∃ σ1, g (a x) (e t) = some σ1 ∧ (b σ1 (m t) = some (.nx (e (step t x)), m (step t x)) ∨ b σ1 (m t) = some (.ct (e (step t x)), m (step t x)))) →
    sLoop g b s (l.map a) (e s0) (m s0) = some (.nx (e (l.foldl step s0)), m (l.foldl step s0))
  | [], s0, hs, _ => by
    show sLoop g b s [] _ _ = _
    unfold sLoop
    rw [if_pos (hs s0)]
    rfl
  | x :: l, s0, hs, h => by
    obtain ⟨σ1, h1, h2⟩ := h x List.mem_cons_self s0
    show sLoop g b s (a x :: l.map a) _ _ = _
    unfold sLoop
    rw [if_pos (hs s0), h1, Option.bind_some]
    have ih := sLoop_fold (g := g) (b := b) (s := s) a e m step l (step s0 x) hs fun y hy => h y (List.mem_cons_of_mem _ hy)
    rcases h2 with h2 | h2
    · rw [h2, Option.bind_some]
      exact ih
    · rw [h2, Option.bind_some]
      exact ih
open L2
/-- .. with what holds on the way -/
theorem sLoop_foldI {α S : Type} {g : Tg} {b : SDen} {s : Src} (a : α → D) (e : S → Env) (m : S → Sto) (step : S → α → S) (P : List α → S → Prop) : ∀ (l : List α) (s0 : S), P l s0 → (∀ t, s.okB (m t) = true) →
    (∀ x l t, P (x :: l) t → P l (step t x) ∧ ∃ σ1, g (a x) (e t) = some σ1 ∧ (b σ1 (m t) = some (.nx (e (step t x)), m (step t x)) ∨ b σ1 (m t) = some (.ct (e (step t x)), m (step t x)))) →
    sLoop g b s (l.map a) (e s0) (m s0) = some (.nx (e (l.foldl step s0)), m (l.foldl step s0)) ∧ P [] (l.foldl step s0)
  | [], s0, p, hs, _ => by
    refine ⟨?_, p⟩
    show sLoop g b s [] _ _ = _
    unfold sLoop
    rw [if_pos (hs s0)]
    rfl
  | x :: l, s0, p, hs, h => by
    obtain ⟨p2, σ1, h1, h2⟩ := h x l s0 p
    obtain ⟨ih, pe⟩ := sLoop_foldI (g := g) (b := b) (s := s) a e m step P l (step s0 x) p2 hs h
    refine ⟨?_, pe⟩
    show sLoop g b s (a x :: l.map a) _ _ = _
    unfold sLoop
    rw [if_pos (hs s0), h1, Option.bind_some]
    rcases h2 with h2 | h2
    · rw [h2, Option.bind_some]
      exact ih
    · rw [h2, Option.bind_some]
      exact ih
theorem atI_nat {α : Type} {xs : List α} {i : Nat} : atI xs (i : Int) = xs[i]? := by
  unfold atI ixN
  rw [if_pos (by omega)]
  by_cases h : (i : Int) < xs.length
  · rw [if_pos h]
    rfl
  · rw [if_neg h]
    show none = xs[i]?
    rw [List.getElem?_eq_none (by omega)]
theorem atI_last {α : Type} {xs : List α} : atI xs (-1) = xs[xs.length - 1]? := by
  unfold atI ixN
  rw [if_neg (by omega)]
  cases xs with
  | nil => rfl
  | cons x xs =>
    rw [if_pos (by simp; omega)]
    show (x :: xs)[((-1 : Int) + ((x :: xs).length : Int)).toNat]? = _
    congr 1
    simp
    omega
/-- every other item from a on -/
def ev {α : Type} (a : Nat) (xs : List α) : List α := (List.range ((xs.length + 1 - a) / 2)).filterMap fun (k : Nat) => xs[a + 2 * k]?
theorem ev_map {α β : Type} (f : α → β) (a : Nat) (xs : List α) : ev a (xs.map f) = (ev a xs).map f := by
  unfold ev
  rw [List.length_map, List.map_filterMap]
  congr 1
  funext k
  rw [List.getElem?_map]
theorem step_ev0 {α : Type} (xs : List α) : stepD xs none none 2 = ev 0 xs := by
  unfold stepD ev
  have h1 : stepLo xs.length none none 2 = 0 := rfl
  have h2 : stepN xs.length none none 2 = (xs.length + 1 - 0) / 2 := by
    unfold stepN
    rw [h1]
    show (if (2 : Int) > 0 then (if (0 : Int) < (xs.length : Int) then ((xs.length : Int) - 0 - 1) / 2 + 1 else 0) else _).toNat = _
    rw [if_pos (by omega)]
    split <;> omega
  rw [h2, h1]
  congr 1
  funext k
  congr 1
  omega
theorem step_ev2 {α : Type} (xs : List α) : stepD xs (some 2) none 2 = ev 2 xs := by
  unfold stepD ev
  have h1 : stepLo xs.length (some 2) none 2 = min 2 (xs.length : Int) := rfl
  have h2 : stepN xs.length (some 2) none 2 = (xs.length + 1 - 2) / 2 := by
    unfold stepN
    rw [h1]
    show (if (2 : Int) > 0 then (if min 2 (xs.length : Int) < (xs.length : Int) then ((xs.length : Int) - min 2 (xs.length : Int) - 1) / 2 + 1 else 0) else _).toNat = _
    rw [if_pos (by omega)]
    split <;> omega
  rw [h2, h1]
  by_cases h : 2 ≤ xs.length
  · congr 1
    funext k
    congr 1
    omega
  · have e : (xs.length + 1 - 2) / 2 = 0 := by omega
    rw [e]
    rfl
theorem intsOf_map (l : List Int) : intsOf (l.map .int) = some l := by
  induction l with
  | nil => rfl
  | cons a l ih =>
    show (intsOf (l.map .int)).map (a :: ·) = _
    rw [ih]
    rfl
end Dn
namespace Dn
open PySem L2
section
variable {σ σ1 : Env} {μ μ1 μ2 : Sto} {f g : SDen} {d : D} {i : Nat} {fe : Den} {c : DenB} {r : Option (Fl × Sto)} {b : Bool}
theorem fDef_rt {j n : Nat} {b : SDen} {ds : List D} (hl : ds.length = j) (h : b (start0 n ds) μ = some (.rt d, μ1)) : fDef j n b ds μ = some (d, μ1) := by
  unfold fDef
  rw [if_pos hl, h]
  rfl
theorem fDef_nx {j n : Nat} {b : SDen} {ds : List D} (hl : ds.length = j) (h : b (start0 n ds) μ = some (.nx σ, μ1)) : fDef j n b ds μ = some (.none, μ1) := by
  unfold fDef
  rw [if_pos hl, h]
  rfl
theorem seq_nx (h1 : f σ μ = some (.nx σ1, μ1)) (h2 : g σ1 μ1 = r) : sSeq f g σ μ = r := by
  unfold sSeq
  rw [h1]
  exact h2
theorem seq_rt (h1 : f σ μ = some (.rt d, μ1)) : sSeq f g σ μ = some (.rt d, μ1) := by
  unfold sSeq
  rw [h1]
  rfl
theorem set_ok (h : fe σ μ = some (d, μ1)) : sSet i fe σ μ = some (.nx (σ.set i (some d)), μ1) := by
  unfold sSet
  rw [h]
  rfl
theorem ret_ok (h : fe σ μ = some (d, μ1)) : sRet fe σ μ = some (.rt d, μ1) := by
  unfold sRet
  rw [h]
  rfl
theorem drop_ok (h : fe σ μ = some (d, μ1)) : sDrop fe σ μ = some (.nx σ, μ1) := by
  unfold sDrop
  rw [h]
  rfl
theorem if_t (h : c σ μ = some (true, μ1)) (h2 : f σ μ1 = r) : sIf c f g σ μ = r := by
  unfold sIf
  rw [h]
  exact h2
theorem if_f (h : c σ μ = some (false, μ1)) (h2 : g σ μ1 = r) : sIf c f g σ μ = r := by
  unfold sIf
  rw [h]
  exact h2
theorem asg_ok {t : Tg} (h : fe σ μ = some (d, μ1)) (h2 : t d σ = some σ1) : sAsg t fe σ μ = some (.nx σ1, μ1) := by
  unfold sAsg
  rw [h, Option.bind_some, h2]
  rfl
theorem for_ok {it : DenI} {t : Tg} {s : Src} (h : it σ μ = some (s, μ1)) (h2 : sLoop t f s s.xs σ μ1 = r) : sFor it t f σ μ = r := by
  unfold sFor
  rw [h]
  exact h2
theorem lc_ok {vs : List Nat} {it : DenI} {t : Tg} {s : Src} {es : List D} (h : it σ μ = some (s, μ1)) (h2 : lcLoop t c fe s (wipeD σ vs) s.xs [] μ1 = some (es, μ2)) : dLc vs it t c fe σ μ = some (.list es, μ2) := by
  unfold dLc
  rw [h, Option.bind_some, h2]
  rfl
theorem lcN_ok {vs : List Nat} {it : DenI} {t : Tg} {s : Src} {es : List D} (h : it σ μ = some (s, μ1)) (h2 : lcLoop t c fe s (wipeD σ vs) s.xs [] μ1 = some (es, μ2)) : dLcN vs it t c fe σ μ = some (rf μ2.length, μ2 ++ [.lst es]) := by
  unfold dLcN
  rw [h, Option.bind_some, h2]
  rfl
end
theorem pk_tup {xs : List D} {μ : Sto} : pk (.tuple xs) μ = .tuple xs := rfl
theorem pk_list {xs : List D} {μ : Sto} : pk (.list xs) μ = .list xs := rfl
theorem pk_int {i : Int} {μ : Sto} : pk (.int i) μ = .int i := rfl
theorem pk_str {x : Str} {μ : Sto} : pk (.str x) μ = .str x := rfl
theorem px_tup {xs : List D} {μ : Sto} : px (.tuple xs) μ = .tuple xs := rfl
theorem px_list {xs : List D} {μ : Sto} : px (.list xs) μ = .list xs := rfl
theorem px_int {i : Int} {μ : Sto} : px (.int i) μ = .int i := rfl
theorem pk_rf {n : Nat} {μ : Sto} {xs : List D} (h : μ[n]? = some (.lst xs)) : pk (rf n) μ = .list xs := by
  have e : pk (rf n) μ = px (rf n) μ := rfl
  rw [e]
  show (match μ[n]? with | some (.lst xs) => (.list xs : D) | _ => rf n) = _
  rw [h]
theorem ev_mem {α : Type} {a : Nat} {xs : List α} {x : α} (h : x ∈ ev a xs) : x ∈ xs := by
  unfold ev at h
  obtain ⟨k, _, e⟩ := List.mem_filterMap.mp h
  exact List.mem_of_getElem? e
theorem ev_len {α : Type} {a : Nat} {xs : List α} : (ev a xs).length ≤ xs.length := by
  unfold ev
  refine Nat.le_trans (List.length_filterMap_le _ _) ?_
  rw [List.length_range]
  omega
theorem sum_nat (l : List Nat) : (l.map fun (i : Nat) => (i : Int)).sum = ((l.sum : Nat) : Int) := by
  induction l with
  | nil => rfl
  | cons a l ih => simp [ih]
end Dn
namespace Dn
open PySem L2
section
variable {σ : Env} {μ μ1 : Sto} {f : Den} {xs : List D}
theorem dStep_ev0 (h : f σ μ = some (.tuple xs, μ1)) (hl : xs.length ≤ lim) : dStep f oNo oNo (oPart (dC (.int 2))) σ μ = some (.tuple (ev 0 xs), μ1) := by
  unfold dStep
  rw [h]
  show (if (2 : Int) ≠ 0 ∧ (2 : Int) ≠ 1 ∧ (stepD xs none none 2).length ≤ lim then some ((.tuple (stepD xs none none 2) : D), μ1) else none) = _
  rw [step_ev0, if_pos ⟨by decide, by decide, Nat.le_trans ev_len hl⟩]
theorem dStep_ev2 (h : f σ μ = some (.tuple xs, μ1)) (hl : xs.length ≤ lim) : dStep f (oPart (dC (.int 2))) oNo (oPart (dC (.int 2))) σ μ = some (.tuple (ev 2 xs), μ1) := by
  unfold dStep
  rw [h]
  show (if (2 : Int) ≠ 0 ∧ (2 : Int) ≠ 1 ∧ (stepD xs (some 2) none 2).length ≤ lim then some ((.tuple (stepD xs (some 2) none 2) : D), μ1) else none) = _
  rw [step_ev2, if_pos ⟨by decide, by decide, Nat.le_trans ev_len hl⟩]
theorem iSeq_tup (h : f σ μ = some (.tuple xs, μ1)) : iSeq f σ μ = some (⟨xs, none⟩, μ1) := by
  unfold iSeq
  rw [h]
  rfl
theorem iSeq_list (h : f σ μ = some (.list xs, μ1)) : iSeq f σ μ = some (⟨xs, none⟩, μ1) := by
  unfold iSeq
  rw [h]
  rfl
end
end Dn
namespace Dn
open PySem L2
section
variable {σ : Env} {μ μ1 μ2 μ3 : Sto} {f f2 f3 : Den} {r : DenL} {d d2' d3 : D} {ds : List D} {q : Option (D × Sto)}
theorem nil_ok : dNil σ μ = some ([], μ) := rfl
theorem cons_ok (h1 : f σ μ = some (d, μ1)) (h2 : r σ μ1 = some (ds, μ2)) : dCons f r σ μ = some (d :: ds, μ2) := by
  unfold dCons
  rw [h1, Option.bind_some, h2]
  rfl
theorem F_ok {g : List D → M D} (h : r σ μ = some (ds, μ1)) (h2 : g ds μ1 = q) : dF g r σ μ = q := by
  unfold dF
  rw [h]
  exact h2
theorem d2_ok {g : D → D → M D} (h1 : f σ μ = some (d, μ1)) (h2 : f2 σ μ1 = some (d3, μ2)) (h3 : g d d3 μ2 = q) : d2 g f f2 σ μ = q := by
  unfold d2
  rw [h1, Option.bind_some, h2]
  exact h3
theorem d1_ok {g : D → M D} (h1 : f σ μ = some (d, μ1)) (h3 : g d μ1 = q) : d1 g f σ μ = q := by
  unfold d1
  rw [h1]
  exact h3
theorem ix_ok {xs : List D} {i : Int} (h1 : f σ μ = some (d, μ1)) (h2 : f2 σ μ1 = some (.int i, μ2)) (hp : pk d μ2 = .list xs ∨ pk d μ2 = .tuple xs) (ha : atI xs i = some d3) : d2 gIx f f2 σ μ = some (d3, μ2) := by
  refine d2_ok h1 h2 ?_
  unfold gIx
  rcases hp with hp | hp
  · rw [hp]
    show (atI xs i).map _ = _
    rw [ha]
    rfl
  · rw [hp]
    show (atI xs i).map _ = _
    rw [ha]
    rfl
theorem val_ok {b : Bool} (h : f σ μ = some (.bool b, μ1)) : bVal f σ μ = some (b, μ1) := by
  unfold bVal
  rw [h]
  rfl
end
theorem at0 {a : D} {l : List D} : atI (a :: l) 0 = some a := by
  rw [show (0 : Int) = ((0 : Nat) : Int) from rfl, atI_nat]
  rfl
theorem at1 {a b : D} {l : List D} : atI (a :: b :: l) 1 = some b := by
  rw [show (1 : Int) = ((1 : Nat) : Int) from rfl, atI_nat]
  rfl
theorem at2 {a b c : D} {l : List D} : atI (a :: b :: c :: l) 2 = some c := by
  rw [show (2 : Int) = ((2 : Nat) : Int) from rfl, atI_nat]
  rfl
theorem tup_ok {ds : List D} {μ : Sto} (h : ds.length ≤ lim) : gTup ds μ = some (.tuple ds, μ) := if_pos h
theorem lst_ok {ds : List D} {μ : Sto} (h : ds.length ≤ lim) : gLst ds μ = some (.list ds, μ) := if_pos h
end Dn
namespace Dn
open PySem L2
section
variable {σ : Env} {μ μ1 μ2 : Sto} {f : Den} {r : DenL} {d : D} {n : Nat} {xs ys : List D}
theorem px_rf (h : μ[n]? = some (.lst xs)) : px (rf n) μ = .list xs := by
  show (match μ[n]? with | some (.lst xs) => (.list xs : D) | _ => rf n) = _
  rw [h]
theorem append_ok (h : f σ μ = some (rf n, μ1)) (hx : μ1[n]? = some (.lst xs)) (h2 : r σ μ1 = some ([d], μ2)) (hy : μ2[n]? = some (.lst ys)) (hl : ys.length < lim) : dML gAppend f r σ μ = some (.none, μ2.set n (.lst (ys ++ [d]))) := by
  unfold dML
  rw [h, Option.bind_some]
  dsimp only
  rw [px_rf hx]
  dsimp only
  rw [h2, Option.bind_some]
  show (match lstAt (rf n) μ2, [d] with | some (n, xs), [d] => _ | _, _ => none) = _
  have e : lstAt (rf n) μ2 = some (n, ys) := by
    show (match μ2[n]? with | some (.lst xs) => some (n, xs) | _ => none) = _
    rw [hy]
  rw [e]
  exact if_pos hl
theorem insert_ok {i : Int} (h : f σ μ = some (rf n, μ1)) (hx : μ1[n]? = some (.lst xs)) (h2 : r σ μ1 = some ([.int i, d], μ2)) (hy : μ2[n]? = some (.lst ys)) (hl : ys.length < lim) (h0 : 0 ≤ i) (h1 : i < 2 ^ 63) : dML gInsert f r σ μ = some (.none, μ2.set n (.lst (ys.take i.toNat ++ [d] ++ ys.drop i.toNat))) := by
  unfold dML
  rw [h, Option.bind_some]
  dsimp only
  rw [px_rf hx]
  dsimp only
  rw [h2, Option.bind_some]
  show (match lstAt (rf n) μ2, [(.int i : D), d] with | some (n, xs), [.int i, d] => _ | _, _ => none) = _
  have e : lstAt (rf n) μ2 = some (n, ys) := by
    show (match μ2[n]? with | some (.lst xs) => some (n, xs) | _ => none) = _
    rw [hy]
  rw [e]
  exact if_pos ⟨hl, h0, h1⟩
theorem len_ok (h : pk d μ = .list xs ∨ pk d μ = .tuple xs) : gLen [d] μ = some (.int (xs.length : Nat), μ) := by
  show (seqOf (pk d μ)).map _ = _
  rcases h with h | h
  · rw [h]; rfl
  · rw [h]; rfl
theorem addL_ok {xs ys : List D} (h : xs.length + ys.length ≤ lim) : gAdd (.list xs) (.list ys) μ = some (.list (xs ++ ys), μ) := if_pos h
theorem addT_ok {xs ys : List D} (h : xs.length + ys.length ≤ lim) : gAdd (.tuple xs) (.tuple ys) μ = some (.tuple (xs ++ ys), μ) := if_pos h
theorem addI_ok {i j : Int} : gAdd (.int i) (.int j) μ = some (.int (i + j), μ) := rfl
theorem par_ok {i j : Nat} {a b : D} (h : r σ μ = some ([a, b], μ1)) : sPar i j r σ μ = some (.nx ((σ.set i (some a)).set j (some b)), μ1) := by
  unfold sPar
  rw [h]
  rfl
end
end Dn
end

section
set_option maxRecDepth 100000
set_option maxHeartbeats 4000000
/-! Mi2: loops with a step that may fail; raising bodies; slices -/
namespace Dn
open PySem L2
def foldO {α S : Type} (step : S → α → Option S) : List α → S → Option S
  | [], s => some s
  | x :: l, s => (step s x).bind fun t => foldO step l t
theorem sLoop_rel {α S : Type} {g : Tg} {b : SDen} {s : Src} (a : α → D) (step : S → α → Option S) (R : S → Env → Sto → Prop) (hok : ∀ t σ μ, R t σ μ → s.okB μ = true)
    (h : ∀ x t t' σ μ, R t σ μ → step t x = some t' → ∃ σ1, g (a x) σ = some σ1 ∧ ∃ σ2 μ2, R t' σ2 μ2 ∧ (b σ1 μ = some (.nx σ2, μ2) ∨ b σ1 μ = some (.ct σ2, μ2))) :
    ∀ (l : List α) (s0 s1 : S) (σ : Env) (μ : Sto), R s0 σ μ → foldO step l s0 = some s1 → ∃ σ' μ', R s1 σ' μ' ∧ sLoop g b s (l.map a) σ μ = some (.nx σ', μ')
  | [], s0, s1, σ, μ, r, e => by
    cases e
    refine ⟨σ, μ, r, ?_⟩
    show sLoop g b s [] _ _ = _
    unfold sLoop
    rw [if_pos (hok _ _ _ r)]
  | x :: l, s0, s1, σ, μ, r, e => by
    obtain ⟨t, e1, e2⟩ := bind_some e
    obtain ⟨σ1, h1, σ2, μ2, r2, h2⟩ := h x s0 t σ μ r e1
    obtain ⟨σ', μ', r3, ih⟩ := sLoop_rel (g := g) (b := b) (s := s) a step R hok h l t s1 σ2 μ2 r2 e2
    refine ⟨σ', μ', r3, ?_⟩
    show sLoop g b s (a x :: l.map a) _ _ = _
    unfold sLoop
    rw [if_pos (hok _ _ _ r), h1, Option.bind_some]
    rcases h2 with h2 | h2
    · rw [h2, Option.bind_some]
      exact ih
    · rw [h2, Option.bind_some]
      exact ih
section
variable {σ σ1 : Env} {μ μ1 : Sto} {f g : XDen} {s : SDen} {c : DenB} {fl : Fl} {d : D} {r : Option ((Fl ⊕ (D × Env)) × Sto)}
theorem lift_ok (h : s σ μ = some (fl, μ1)) : xLift s σ μ = some (.inl fl, μ1) := by
  unfold xLift
  rw [h]
  rfl
theorem xseq_nx (h : f σ μ = some (.inl (.nx σ1), μ1)) (h2 : g σ1 μ1 = r) : xSeq f g σ μ = r := by
  unfold xSeq
  rw [h]
  exact h2
theorem xseq_rs (h : f σ μ = some (.inr (d, σ1), μ1)) : xSeq f g σ μ = some (.inr (d, σ1), μ1) := by
  unfold xSeq
  rw [h]
  rfl
theorem xif_t (h : c σ μ = some (true, μ1)) (h2 : f σ μ1 = r) : xIf c f g σ μ = r := by
  unfold xIf
  rw [h]
  exact h2
theorem xif_f (h : c σ μ = some (false, μ1)) (h2 : g σ μ1 = r) : xIf c f g σ μ = r := by
  unfold xIf
  rw [h]
  exact h2
theorem fDefX_rt {j n : Nat} {b : XDen} {ds : List D} (hl : ds.length = j) (h : b (start0 n ds) μ = some (.inl (.rt d), μ1)) : fDefX j n b ds μ = some (.inl d, μ1) := by
  unfold fDefX
  rw [if_pos hl, h]
  rfl
theorem fDefX_rs {j n : Nat} {b : XDen} {ds : List D} (hl : ds.length = j) (h : b (start0 n ds) μ = some (.inr (d, σ1), μ1)) : fDefX j n b ds μ = some (.inr d, μ1) := by
  unfold fDefX
  rw [if_pos hl, h]
  rfl
theorem or_t {c2 : DenB} (h : c σ μ = some (true, μ1)) : bOr c c2 σ μ = some (true, μ1) := by
  unfold bOr
  rw [h]
  rfl
theorem or_f {c2 : DenB} {q : Option (Bool × Sto)} (h : c σ μ = some (false, μ1)) (h2 : c2 σ μ1 = q) : bOr c c2 σ μ = q := by
  unfold bOr
  rw [h]
  exact h2
theorem and_t {c2 : DenB} {q : Option (Bool × Sto)} (h : c σ μ = some (true, μ1)) (h2 : c2 σ μ1 = q) : bAnd c c2 σ μ = q := by
  unfold bAnd
  rw [h]
  exact h2
theorem and_f {c2 : DenB} (h : c σ μ = some (false, μ1)) : bAnd c c2 σ μ = some (false, μ1) := by
  unfold bAnd
  rw [h]
  rfl
end
theorem atI_map {α β : Type} (f : α → β) (xs : List α) (i : Int) : atI (xs.map f) i = (atI xs i).map f := by
  unfold atI
  rw [List.length_map]
  cases ixN xs.length i with
  | none => rfl
  | some j =>
    show (xs.map f)[j]? = (xs[j]?).map f
    rw [List.getElem?_map]
theorem cut_last {xs : List D} : cutD xs none (some (-1)) = xs.dropLast := by
  unfold cutD
  show (xs.drop 0).take (HT.sIx xs.length xs.length (some (-1)) - 0) = _
  rw [List.drop_zero, List.dropLast_eq_take]
  congr 1
  show ((-1 : Int) + (xs.length : Int)).toNat - 0 = _
  omega
theorem cut_to {xs : List D} {k : Nat} : cutD xs none (some (k : Int)) = xs.take k := by
  unfold cutD
  rw [HT.sIx_nat]
  show (xs.drop 0).take (min k xs.length - 0) = _
  rw [List.drop_zero, Nat.sub_zero, Nat.min_comm]
  exact (List.take_eq_take_iff.mpr (by omega))
theorem cut_from {xs : List D} {k : Nat} : cutD xs (some (k : Int)) none = xs.drop k := by
  unfold cutD
  rw [HT.sIx_nat]
  show (xs.drop (min k xs.length)).take (xs.length - min k xs.length) = _
  rw [List.take_of_length_le (by rw [List.length_drop]; exact Nat.le_refl _)]
  by_cases h : k ≤ xs.length
  · rw [Nat.min_eq_left h]
  · rw [Nat.min_eq_right (by omega), List.drop_length, List.drop_of_length_le (by omega)]
section
variable {σ : Env} {μ μ1 : Sto} {f : Den} {xs : List D}
theorem sl_toN {g : Den} {k : Nat} (h : f σ μ = some (.tuple xs, μ1)) (hg : g σ μ1 = some (.int (k : Nat), μ1)) : dSl f oNo (oPart g) σ μ = some (.tuple (xs.take k), μ1) := by
  unfold dSl
  rw [h, Option.bind_some]
  unfold oNo oPart
  rw [Option.bind_some, hg]
  show some ((.tuple (cutD xs none (some (k : Int))) : D), μ1) = _
  rw [cut_to]
theorem sl_fromN {g : Den} {k : Nat} (h : f σ μ = some (.tuple xs, μ1)) (hg : g σ μ1 = some (.int (k : Nat), μ1)) : dSl f (oPart g) oNo σ μ = some (.tuple (xs.drop k), μ1) := by
  unfold dSl
  rw [h, Option.bind_some]
  unfold oNo oPart
  rw [hg]
  show some ((.tuple (cutD xs (some (k : Int)) none) : D), μ1) = _
  rw [cut_from]
theorem sl_last (h : f σ μ = some (.list xs, μ1)) : dSl f oNo (oPart (d1 gNeg (dC (.int 1)))) σ μ = some (.list xs.dropLast, μ1) := by
  unfold dSl
  rw [h]
  show some ((.list (cutD xs none (some (-1))) : D), μ1) = _
  rw [cut_last]
end
end Dn
end

section
set_option maxRecDepth 100000
set_option maxHeartbeats 8000000
namespace Dn
open PySem PySem.Spec PyProof.Rows L2
def topS (i : Nat) : Stmt := PySem.Challenge.pw_movedfolders_k55_unfolded_at_the_bound.main.body.getD i (.Pass ⟨0, 0, 0, 0⟩)
structure Bt (mg : Str → Option Value) : Prop where
  b_max : mg "max" = none
  b_min : mg "min" = none
  b_sum : mg "sum" = none
  b_len : mg "len" = none
  b_tuple : mg "tuple" = none
  b_list : mg "list" = none
  b_enumerate : mg "enumerate" = none
  b_range : mg "range" = none
  b_abs : mg "abs" = none
  b_int : mg "int" = none
section
variable {P : Program} {w : World} {K : PySem.W.Frag} {mg : Str → Option Value} {base : Heap}
abbrev st_stepped : Stmt := topS 3
theorem sc_stepped : FnScope ["sizes", "content", "step", "word", "cell", "number", "value"] ["sizes", "content", "step"] (defScope st_stepped) := ⟨rfl, rfl, rfl, by decide +kernel, rfl, by decide +kernel, by decide +kernel⟩
noncomputable def d_stepped : SDen :=
    (sSeq (sAsg (tTupD 3 (tMore (tName 3) (tMore (tName 4) (tMore (tName 5) tNone)))) (dVar 2))
    (sSeq (sSet 6 (d2 gIx (dVar 1) (dVar 4)))
    (sSeq (sIf (bVal (d2 gEq (dVar 3) (dC (.str ("set" : String)))))
    (sSet 6 (dVar 5))
    (sIf (bVal (d2 gEq (dVar 3) (dC (.str ("raise" : String)))))
    (sSet 6 (dF gMax2 (dCons (dVar 6) (dCons (dVar 5) dNil))))
    (sIf (bVal (d2 gEq (dVar 3) (dC (.str ("lower" : String)))))
    (sSet 6 (dF gMin2 (dCons (dVar 6) (dCons (dVar 5) dNil))))
    (sSet 6 (dF gMin2 (dCons (d2 gIx (dVar 1) (dVar 5)) (dCons (d2 gSub (d2 gIx (dVar 0) (dVar 4)) (dC (.int 1))) dNil)))))))
    (sRet (d2 gAdd (d2 gAdd (dSl (dVar 1) oNo (oPart (dVar 4))) (dF gTup (dCons (dVar 6) dNil))) (dSl (dVar 1) (oPart (d2 gAdd (dVar 4) (dC (.int 1)))) oNo))))))
noncomputable def f_stepped : List D → M D := fDef 3 7 d_stepped
theorem ok_stepped (T : Bt mg) (F : Fn K mg "stepped" st_stepped ["sizes", "content", "step"]) : Cal P w K mg base 1 "stepped" ["sizes", "content", "step"] f_stepped :=
  (F.cal (k := 0) (b := d_stepped) sc_stepped (fun f cdv A outer s H E hr hu =>
    (ss_cons (s_asg (e_var 2) (g_tup rfl (gs_cons (g_name (i := 3) sc_stepped.nd rfl (by first | exact Or.inl rfl | exact Or.inr rfl)) (gs_cons (g_name (i := 4) sc_stepped.nd rfl (by first | exact Or.inl rfl | exact Or.inr rfl)) (gs_cons (g_name (i := 5) sc_stepped.nd rfl (by first | exact Or.inl rfl | exact Or.inr rfl)) gs_nil)))))
    (ss_cons (s_set (i := 6) sc_stepped.nd rfl (Or.inl rfl) (e_ix x_ix (e_var 1) (e_var 4)))
    (ss_cons (s_if (b_cmp (o_eq (Nat.lt_of_succ_lt hu)) (e_var 3) e_str)
    (ss_one (s_set (i := 6) sc_stepped.nd rfl (Or.inl rfl) (e_var 5)))
    (ss_one (s_if (b_cmp (o_eq (Nat.lt_of_succ_lt hu)) (e_var 3) e_str)
    (ss_one (s_set (i := 6) sc_stepped.nd rfl (Or.inl rfl) (e_callB (c_max2 rfl) (by rfl) T.b_max (by decide +kernel) (a_cons (e_var 6) (a_cons (e_var 5) a_nil)))))
    (ss_one (s_if (b_cmp (o_eq (Nat.lt_of_succ_lt hu)) (e_var 3) e_str)
    (ss_one (s_set (i := 6) sc_stepped.nd rfl (Or.inl rfl) (e_callB (c_min2 rfl) (by rfl) T.b_min (by decide +kernel) (a_cons (e_var 6) (a_cons (e_var 5) a_nil)))))
    (ss_one (s_set (i := 6) sc_stepped.nd rfl (Or.inl rfl) (e_callB (c_min2 rfl) (by rfl) T.b_min (by decide +kernel) (a_cons (e_ix x_ix (e_var 1) (e_var 5)) (a_cons (e_op o_sub (e_ix x_ix (e_var 0) (e_var 4)) e_int) a_nil))))))))))
    (ss_one (s_ret (e_op o_add (e_op o_add (e_sl (e_var 1) po_no (po_part (e_var 4))) (e_tup (a_cons (e_var 6) a_nil))) (e_sl (e_var 1) (po_part (e_op o_add (e_var 4) e_int)) po_no))))))))).as rfl

abbrev st_made : Stmt := topS 4
theorem sc_made : FnScope ["house", "content", "kind", "step"] ["house", "content", "kind"] (defScope st_made) := ⟨rfl, rfl, rfl, by decide +kernel, rfl, by decide +kernel, by decide +kernel⟩
noncomputable def d_made : SDen :=
    (sSeq (sFor (iSeq (d2 gIx (d2 gIx (dVar 0) (dC (.int 2))) (dVar 2))) (tName 3)
    (sIf (bVal (d2 gEq (d2 gIx (dVar 3) (dC (.int 0))) (dC (.str ("when" : String)))))
    (sIf (bVal (dChain gLe gLe (d2 gIx (dVar 3) (dC (.int 2))) (d2 gIx (dVar 1) (d2 gIx (dVar 3) (dC (.int 1)))) (d2 gIx (dVar 3) (dC (.int 3)))))
    (sSet 1 (dF f_stepped (dCons (d2 gIx (dVar 0) (dC (.int 0))) (dCons (dVar 1) (dCons (d2 gIx (dVar 3) (dC (.int 4))) dNil)))))
    sSkip)
    (sSet 1 (dF f_stepped (dCons (d2 gIx (dVar 0) (dC (.int 0))) (dCons (dVar 1) (dCons (dVar 3) dNil)))))))
    (sRet (dVar 1)))
noncomputable def f_made : List D → M D := fDef 3 4 d_made
theorem ok_made (T : Bt mg) (F : Fn K mg "made" st_made ["house", "content", "kind"]) (c_stepped : Cal P w K mg base 1 "stepped" ["sizes", "content", "step"] f_stepped) : Cal P w K mg base 2 "made" ["house", "content", "kind"] f_made :=
  (F.cal (k := 1) (b := d_made) sc_made (fun f cdv A outer s H E hr hu =>
    (ss_cons (s_for PassesOwn.never rfl (i_seq (e_ix x_ix (e_ix x_ix (e_var 0) e_int) (e_var 2))) (g_name (i := 3) sc_made.nd rfl (by first | exact Or.inl rfl | exact Or.inr rfl))
    (ss_one (s_if (b_cmp (o_eq (Nat.lt_of_succ_lt hu)) (e_ix x_ix (e_var 3) e_int) e_str)
    (ss_one (s_if (b_chain o_le o_le (e_ix x_ix (e_var 3) e_int) (e_ix x_ix (e_var 1) (e_ix x_ix (e_var 3) e_int)) (e_ix x_ix (e_var 3) e_int))
    (ss_one (s_set (i := 1) sc_made.nd rfl (Or.inl rfl) (e_def c_stepped (hr.mono (by decide)) (by rfl) (a_cons (e_ix x_ix (e_var 0) e_int) (a_cons (e_var 1) (a_cons (e_ix x_ix (e_var 3) e_int) a_nil))))))
    ss_nil))
    (ss_one (s_set (i := 1) sc_made.nd rfl (Or.inl rfl) (e_def c_stepped (hr.mono (by decide)) (by rfl) (a_cons (e_ix x_ix (e_var 0) e_int) (a_cons (e_var 1) (a_cons (e_var 3) a_nil)))))))))
    (ss_one (s_ret (e_var 1)))))).as rfl

abbrev st_chain_told : Stmt := topS 6
theorem sc_chain_told : FnScope ["told", "chain", "pair", "costs", "moves", "index", "cost"] ["told", "chain"] (defScope st_chain_told) := ⟨rfl, rfl, rfl, by decide +kernel, rfl, by decide +kernel, by decide +kernel⟩
noncomputable def d_chain_told : SDen :=
    (sSeq (sSet 2 (dF gTup (dCons (d2 gIx (d2 gIx (d2 gIx (dVar 0) (d2 gIx (dVar 1) (dC (.int 0)))) (dC (.int 0))) (dC (.int 0))) (dCons (d2 gIx (d2 gIx (d2 gIx (dVar 0) (d2 gIx (dVar 1) (d1 gNeg (dC (.int 1))))) (dC (.int 0))) (dC (.int 1))) dNil))))
    (sSeq (sSet 3 (dLc [5] (iSeq (dStep (dVar 1) oNo oNo (oPart (dC (.int 2))))) (tName 5) bYes (d2 gIx (d2 gIx (dVar 0) (dVar 5)) (dC (.int 1)))))
    (sSeq (sSet 4 (dF gSum2 (dCons (dLc [6] (iSeq (dVar 3)) (tName 6) bYes (d2 gIx (dVar 6) (dC (.int 0)))) (dCons (d2 gFdiv (dF gLen (dCons (dVar 1) dNil)) (dC (.int 2))) dNil))))
    (sRet (dF gTup (dCons (dVar 2) (dCons (dF gTup (dCons (dVar 4) (dCons (dF gSum1 (dCons (dLc [6] (iSeq (dVar 3)) (tName 6) bYes (d2 gIx (dVar 6) (dC (.int 1)))) dNil)) dNil))) dNil)))))))
noncomputable def f_chain_told : List D → M D := fDef 2 7 d_chain_told
theorem ok_chain_told (T : Bt mg) (F : Fn K mg "chain_told" st_chain_told ["told", "chain"]) : Cal P w K mg base 1 "chain_told" ["told", "chain"] f_chain_told :=
  (F.cal (k := 0) (b := d_chain_told) sc_chain_told (fun f cdv A outer s H E hr hu =>
    (ss_cons (s_set (i := 2) sc_chain_told.nd rfl (Or.inl rfl) (e_tup (a_cons (e_ix x_ix (e_ix x_ix (e_ix x_ix (e_var 0) (e_ix x_ix (e_var 1) e_int)) e_int) e_int) (a_cons (e_ix x_ix (e_ix x_ix (e_ix x_ix (e_var 0) (e_ix x_ix (e_var 1) (e_un u_neg e_int))) e_int) e_int) a_nil))))
    (ss_cons (s_setLc (i := 3) [("index", 5)] rfl sc_chain_told.nd rfl rfl (sw_true rfl rfl rfl (by decide +kernel)) (i_seq (e_step (e_var 1) po_no po_no (po_part e_int))) (blkOk_by (N := ["told", "chain", "pair", "costs", "moves", "index", "cost"]) (sc := defScope st_chain_told) (by decide +kernel)) (fun _ _ _ _ _ => (g_name (i := 5) sc_chain_told.nd rfl (by first | exact Or.inl rfl | exact Or.inr rfl))) (fun _ _ _ _ _ => ts_nil) (fun _ _ _ _ _ => (e_ix x_ix (e_ix x_ix (e_var 0) (e_var 5)) e_int)))
    (ss_cons (s_set (i := 4) sc_chain_told.nd rfl (Or.inl rfl) (e_callB (c_sum2 rfl) (by rfl) T.b_sum (by decide +kernel) (a_cons (e_lc [("cost", 6)] rfl sc_chain_told.nd (i_seq (e_var 3)) (blkOk_by (N := ["told", "chain", "pair", "costs", "moves", "index", "cost"]) (sc := defScope st_chain_told) (by decide +kernel)) (fun _ _ _ _ _ => (g_name (i := 6) sc_chain_told.nd rfl (by first | exact Or.inl rfl | exact Or.inr rfl))) (fun _ _ _ _ _ => ts_nil) (fun _ _ _ _ _ => (e_ix x_ix (e_var 6) e_int))) (a_cons (e_op o_fdiv (e_callB c_len (by rfl) T.b_len PySem.boot_len (a_cons (e_var 1) a_nil)) e_int) a_nil))))
    (ss_one (s_ret (e_tup (a_cons (e_var 2) (a_cons (e_tup (a_cons (e_var 4) (a_cons (e_callB (c_sum1 rfl) (by rfl) T.b_sum (by decide +kernel) (a_cons (e_lc [("cost", 6)] rfl sc_chain_told.nd (i_seq (e_var 3)) (blkOk_by (N := ["told", "chain", "pair", "costs", "moves", "index", "cost"]) (sc := defScope st_chain_told) (by decide +kernel)) (fun _ _ _ _ _ => (g_name (i := 6) sc_chain_told.nd rfl (by first | exact Or.inl rfl | exact Or.inr rfl))) (fun _ _ _ _ _ => ts_nil) (fun _ _ _ _ _ => (e_ix x_ix (e_var 6) e_int))) a_nil)) a_nil))) a_nil)))))))))).as rfl

abbrev st_row_told : Stmt := topS 7
theorem sc_row_told : FnScope ["house", "told", "row", "one", "two", "moves", "things"] ["house", "told", "row"] (defScope st_row_told) := ⟨rfl, rfl, rfl, by decide +kernel, rfl, by decide +kernel, by decide +kernel⟩
noncomputable def d_row_told : SDen :=
    (sSeq (sIf (bVal (d2 gEq (d2 gIx (dVar 2) (dC (.int 0))) (dC (.str ("root" : String)))))
    (sRet (dF gTup (dCons (dF gTup (dCons (d2 gIx (dVar 0) (dC (.int 1))) (dCons (d2 gIx (dVar 0) (dC (.int 1))) dNil))) (dCons (dF gTup (dCons (dC (.int 0)) (dCons (dC (.int 0)) dNil))) dNil))))
    sSkip)
    (sSeq (sAsg (tTupD 2 (tMore (tTupD 2 (tMore (tName 3) (tMore (tName 4) tNone))) (tMore (tTupD 2 (tMore (tName 5) (tMore (tName 6) tNone))) tNone))) (dF f_chain_told (dCons (dVar 1) (dCons (d2 gIx (dVar 2) (dC (.int 1))) dNil))))
    (sRet (dF gTup (dCons (dF gTup (dCons (dF f_made (dCons (dVar 0) (dCons (dVar 3) (dCons (d2 gIx (dVar 2) (dC (.int 0))) dNil)))) (dCons (dF f_made (dCons (dVar 0) (dCons (dVar 4) (dCons (d2 gIx (dVar 2) (dC (.int 0))) dNil)))) dNil))) (dCons (dF gTup (dCons (dVar 5) (dCons (d2 gAdd (dVar 6) (dC (.int 1))) dNil))) dNil))))))
noncomputable def f_row_told : List D → M D := fDef 3 7 d_row_told
theorem ok_row_told (T : Bt mg) (F : Fn K mg "row_told" st_row_told ["house", "told", "row"]) (c_chain_told : Cal P w K mg base 1 "chain_told" ["told", "chain"] f_chain_told) (c_made : Cal P w K mg base 2 "made" ["house", "content", "kind"] f_made) : Cal P w K mg base 3 "row_told" ["house", "told", "row"] f_row_told :=
  (F.cal (k := 2) (b := d_row_told) sc_row_told (fun f cdv A outer s H E hr hu =>
    (ss_cons (s_if (b_cmp (o_eq (Nat.lt_of_succ_lt hu)) (e_ix x_ix (e_var 2) e_int) e_str)
    (ss_one (s_ret (e_tup (a_cons (e_tup (a_cons (e_ix x_ix (e_var 0) e_int) (a_cons (e_ix x_ix (e_var 0) e_int) a_nil))) (a_cons (e_tup (a_cons e_int (a_cons e_int a_nil))) a_nil)))))
    ss_nil)
    (ss_cons (s_asg (e_def c_chain_told (hr.mono (by decide)) (by rfl) (a_cons (e_var 1) (a_cons (e_ix x_ix (e_var 2) e_int) a_nil))) (g_tup rfl (gs_cons (g_tup rfl (gs_cons (g_name (i := 3) sc_row_told.nd rfl (by first | exact Or.inl rfl | exact Or.inr rfl)) (gs_cons (g_name (i := 4) sc_row_told.nd rfl (by first | exact Or.inl rfl | exact Or.inr rfl)) gs_nil))) (gs_cons (g_tup rfl (gs_cons (g_name (i := 5) sc_row_told.nd rfl (by first | exact Or.inl rfl | exact Or.inr rfl)) (gs_cons (g_name (i := 6) sc_row_told.nd rfl (by first | exact Or.inl rfl | exact Or.inr rfl)) gs_nil))) gs_nil))))
    (ss_one (s_ret (e_tup (a_cons (e_tup (a_cons (e_def c_made (hr.mono (by decide)) (by rfl) (a_cons (e_var 0) (a_cons (e_var 3) (a_cons (e_ix x_ix (e_var 2) e_int) a_nil)))) (a_cons (e_def c_made (hr.mono (by decide)) (by rfl) (a_cons (e_var 0) (a_cons (e_var 4) (a_cons (e_ix x_ix (e_var 2) e_int) a_nil)))) a_nil))) (a_cons (e_tup (a_cons (e_var 5) (a_cons (e_op o_add (e_var 6) e_int) a_nil))) a_nil))))))))).as rfl

abbrev st_rows_told : Stmt := topS 8
theorem sc_rows_told : FnScope ["house", "ledger", "told", "row"] ["house", "ledger"] (defScope st_rows_told) := ⟨rfl, rfl, rfl, by decide +kernel, rfl, by decide +kernel, by decide +kernel⟩
noncomputable def d_rows_told : SDen :=
    (sSeq (sSet 2 (dF gNew dNil))
    (sSeq (sFor (iSeq (dVar 1)) (tName 3)
    (sDrop (dML gAppend (dVar 2) (dCons (dF f_row_told (dCons (dVar 0) (dCons (dVar 2) (dCons (dVar 3) dNil)))) dNil))))
    (sRet (dVar 2))))
noncomputable def f_rows_told : List D → M D := pureD (fDef 2 4 d_rows_told)
theorem ok_rows_told (T : Bt mg) (F : Fn K mg "rows_told" st_rows_told ["house", "ledger"]) (c_row_told : Cal P w K mg base 3 "row_told" ["house", "told", "row"] f_row_told) : Cal P w K mg base 4 "rows_told" ["house", "ledger"] f_rows_told :=
  (F.cal (k := 3) (b := d_rows_told) sc_rows_told (fun f cdv A outer s H E hr hu =>
    (ss_cons (s_set (i := 2) sc_rows_told.nd rfl (Or.inl rfl) (e_new a_nil))
    (ss_cons (s_for PassesOwn.never rfl (i_seq (e_var 1)) (g_name (i := 3) sc_rows_told.nd rfl (by first | exact Or.inl rfl | exact Or.inr rfl))
    (ss_one (s_expr (e_lm PySem.F.slot_list_append PySem.F.type_list_append m_append (e_var 2) (a_cons (e_def c_row_told (hr.mono (by decide)) (by rfl) (a_cons (e_var 0) (a_cons (e_var 2) (a_cons (e_var 3) a_nil)))) a_nil)))))
    (ss_one (s_ret (e_var 2))))))).pure

abbrev st_course_cost : Stmt := topS 9
theorem sc_course_cost : FnScope ["house", "rules", "item", "course"] ["house", "rules", "item", "course"] (defScope st_course_cost) := ⟨rfl, rfl, rfl, by decide +kernel, rfl, by decide +kernel, by decide +kernel⟩
noncomputable def d_course_cost : SDen :=
    (sRet (d2 gIx (dF f_chain_told (dCons (dF f_rows_told (dCons (dVar 0) (dCons (d2 gIx (dVar 3) (dC (.int 0))) dNil))) (dCons (d2 gIx (dVar 3) (dC (.int 1))) dNil))) (dC (.int 1))))
noncomputable def f_course_cost : List D → M D := fDef 4 4 d_course_cost
theorem ok_course_cost (T : Bt mg) (F : Fn K mg "course_cost" st_course_cost ["house", "rules", "item", "course"]) (c_chain_told : Cal P w K mg base 1 "chain_told" ["told", "chain"] f_chain_told) (c_rows_told : Cal P w K mg base 4 "rows_told" ["house", "ledger"] f_rows_told) : Cal P w K mg base 5 "course_cost" ["house", "rules", "item", "course"] f_course_cost :=
  (F.cal (k := 4) (b := d_course_cost) sc_course_cost (fun f cdv A outer s H E hr hu =>
    (ss_one (s_ret (e_ix x_ix (e_def c_chain_told (hr.mono (by decide)) (by rfl) (a_cons (e_def c_rows_told (hr.mono (by decide)) (by rfl) (a_cons (e_var 0) (a_cons (e_ix x_ix (e_var 3) e_int) a_nil))) (a_cons (e_ix x_ix (e_var 3) e_int) a_nil))) e_int))))).as rfl

abbrev st_grown : Stmt := topS 12
theorem sc_grown : FnScope ["ledger", "index", "first", "row", "adds", "place", "moves", "folder", "more", "led"] ["ledger", "index", "first"] (defScope st_grown) := ⟨rfl, rfl, rfl, by decide +kernel, rfl, by decide +kernel, by decide +kernel⟩
noncomputable def d_grown (f_grown : List D → M D) (f_followed : List D → M D) : SDen :=
    (sSeq (sSet 3 (d2 gIx (dVar 0) (dVar 1)))
    (sSeq (sIf (bVal (d2 gEq (d2 gIx (dVar 3) (dC (.int 0))) (dC (.str ("root" : String)))))
    (sRet (dF gTup (dCons (dF gLst dNil) (dCons (d1 gNeg (dC (.int 1))) (dCons (dF gLst dNil) dNil)))))
    sSkip)
    (sSeq (sAsg (tTupD 3 (tMore (tName 4) (tMore (tName 5) (tMore (tName 6) tNone)))) (dF f_grown (dCons (dVar 0) (dCons (d2 gIx (d2 gIx (dVar 3) (dC (.int 1))) (dC (.int 0))) (dCons (dVar 2) dNil)))))
    (sSeq (sSet 7 (d2 gAdd (dVar 2) (dF gLen (dCons (dVar 4) dNil))))
    (sSeq (sSet 4 (d2 gAdd (dVar 4) (dF gLst (dCons (dF gTup (dCons (d2 gIx (dVar 3) (dC (.int 0))) (dCons (dVar 5) dNil))) dNil))))
    (sSeq (sAsg (tTupD 2 (tMore (tName 8) (tMore (tName 9) tNone))) (dF f_followed (dCons (dVar 0) (dCons (d2 gIx (dVar 3) (dC (.int 1))) (dCons (dVar 7) (dCons (d2 gAdd (dVar 7) (dC (.int 1))) dNil))))))
    (sRet (dF gTup (dCons (d2 gAdd (dVar 4) (dVar 8)) (dCons (dVar 7) (dCons (d2 gAdd (dVar 6) (dVar 9)) dNil)))))))))))
theorem ok_grown (T : Bt mg) (F : Fn K mg "grown" st_grown ["ledger", "index", "first"]) (k : Nat) (f_grown : List D → M D) (f_followed : List D → M D) (c_grown : Cal P w K mg base k "grown" ["ledger", "index", "first"] f_grown) (c_followed : Cal P w K mg base k "followed" ["ledger", "chain", "thing", "first"] f_followed) : Cal P w K mg base (k + 1) "grown" ["ledger", "index", "first"] (fDef 3 10 (d_grown f_grown f_followed)) :=
  (F.cal (k := k) (b := d_grown f_grown f_followed) sc_grown (fun f cdv A outer s H E hr hu =>
    (ss_cons (s_set (i := 3) sc_grown.nd rfl (Or.inl rfl) (e_ix x_ix (e_var 0) (e_var 1)))
    (ss_cons (s_if (b_cmp (o_eq (Nat.lt_of_succ_lt hu)) (e_ix x_ix (e_var 3) e_int) e_str)
    (ss_one (s_ret (e_tup (a_cons (e_lst a_nil) (a_cons (e_un u_neg e_int) (a_cons (e_lst a_nil) a_nil))))))
    ss_nil)
    (ss_cons (s_asg (e_def c_grown hr (by rfl) (a_cons (e_var 0) (a_cons (e_ix x_ix (e_ix x_ix (e_var 3) e_int) e_int) (a_cons (e_var 2) a_nil)))) (g_tup rfl (gs_cons (g_name (i := 4) sc_grown.nd rfl (by first | exact Or.inl rfl | exact Or.inr rfl)) (gs_cons (g_name (i := 5) sc_grown.nd rfl (by first | exact Or.inl rfl | exact Or.inr rfl)) (gs_cons (g_name (i := 6) sc_grown.nd rfl (by first | exact Or.inl rfl | exact Or.inr rfl)) gs_nil)))))
    (ss_cons (s_set (i := 7) sc_grown.nd rfl (Or.inl rfl) (e_op o_add (e_var 2) (e_callB c_len (by rfl) T.b_len PySem.boot_len (a_cons (e_var 4) a_nil))))
    (ss_cons (s_set (i := 4) sc_grown.nd rfl (Or.inl rfl) (e_op o_add (e_var 4) (e_lst (a_cons (e_tup (a_cons (e_ix x_ix (e_var 3) e_int) (a_cons (e_var 5) a_nil))) a_nil))))
    (ss_cons (s_asg (e_def c_followed hr (by rfl) (a_cons (e_var 0) (a_cons (e_ix x_ix (e_var 3) e_int) (a_cons (e_var 7) (a_cons (e_op o_add (e_var 7) e_int) a_nil))))) (g_tup rfl (gs_cons (g_name (i := 8) sc_grown.nd rfl (by first | exact Or.inl rfl | exact Or.inr rfl)) (gs_cons (g_name (i := 9) sc_grown.nd rfl (by first | exact Or.inl rfl | exact Or.inr rfl)) gs_nil))))
    (ss_one (s_ret (e_tup (a_cons (e_op o_add (e_var 4) (e_var 8)) (a_cons (e_var 7) (a_cons (e_op o_add (e_var 6) (e_var 9)) a_nil)))))))))))))).as rfl

abbrev st_followed : Stmt := topS 13
theorem sc_followed : FnScope ["ledger", "chain", "thing", "first", "adds", "moves", "index", "some", "place", "more"] ["ledger", "chain", "thing", "first"] (defScope st_followed) := ⟨rfl, rfl, rfl, by decide +kernel, rfl, by decide +kernel, by decide +kernel⟩
noncomputable def d_followed (f_grown : List D → M D) (f_followed : List D → M D) : SDen :=
    (sSeq (sPar 4 5 (dCons (dF gLst dNil) (dCons (dF gLst dNil) dNil)))
    (sSeq (sFor (iSeq (dStep (dVar 1) (oPart (dC (.int 2))) oNo (oPart (dC (.int 2))))) (tName 6)
    (sSeq (sAsg (tTupD 3 (tMore (tName 7) (tMore (tName 8) (tMore (tName 9) tNone)))) (dF f_grown (dCons (dVar 0) (dCons (dVar 6) (dCons (d2 gAdd (dVar 3) (dF gLen (dCons (dVar 4) dNil))) dNil)))))
    (sSeq (sSet 4 (d2 gAdd (dVar 4) (dVar 7)))
    (sSet 5 (d2 gAdd (d2 gAdd (dVar 5) (dF gLst (dCons (dF gTup (dCons (dVar 2) (dCons (dVar 8) dNil))) dNil))) (dVar 9))))))
    (sRet (dF gTup (dCons (dVar 4) (dCons (dVar 5) dNil))))))
theorem ok_followed (T : Bt mg) (F : Fn K mg "followed" st_followed ["ledger", "chain", "thing", "first"]) (k : Nat) (f_grown : List D → M D) (f_followed : List D → M D) (c_grown : Cal P w K mg base k "grown" ["ledger", "index", "first"] f_grown) (c_followed : Cal P w K mg base k "followed" ["ledger", "chain", "thing", "first"] f_followed) : Cal P w K mg base (k + 1) "followed" ["ledger", "chain", "thing", "first"] (fDef 4 10 (d_followed f_grown f_followed)) :=
  (F.cal (k := k) (b := d_followed f_grown f_followed) sc_followed (fun f cdv A outer s H E hr hu =>
    (ss_cons (s_par (i := 4) (j := 5) rfl sc_followed.nd rfl rfl (by decide) rfl rfl (a_cons (e_lst a_nil) (a_cons (e_lst a_nil) a_nil)) (by rfl))
    (ss_cons (s_for PassesOwn.never rfl (i_seq (e_step (e_var 1) (po_part e_int) po_no (po_part e_int))) (g_name (i := 6) sc_followed.nd rfl (by first | exact Or.inl rfl | exact Or.inr rfl))
    (ss_cons (s_asg (e_def c_grown hr (by rfl) (a_cons (e_var 0) (a_cons (e_var 6) (a_cons (e_op o_add (e_var 3) (e_callB c_len (by rfl) T.b_len PySem.boot_len (a_cons (e_var 4) a_nil))) a_nil)))) (g_tup rfl (gs_cons (g_name (i := 7) sc_followed.nd rfl (by first | exact Or.inl rfl | exact Or.inr rfl)) (gs_cons (g_name (i := 8) sc_followed.nd rfl (by first | exact Or.inl rfl | exact Or.inr rfl)) (gs_cons (g_name (i := 9) sc_followed.nd rfl (by first | exact Or.inl rfl | exact Or.inr rfl)) gs_nil)))))
    (ss_cons (s_set (i := 4) sc_followed.nd rfl (Or.inl rfl) (e_op o_add (e_var 4) (e_var 7)))
    (ss_one (s_set (i := 5) sc_followed.nd rfl (Or.inl rfl) (e_op o_add (e_op o_add (e_var 5) (e_lst (a_cons (e_tup (a_cons (e_var 2) (a_cons (e_var 8) a_nil))) a_nil))) (e_var 9)))))))
    (ss_one (s_ret (e_tup (a_cons (e_var 4) (a_cons (e_var 5) a_nil))))))))).as rfl

noncomputable def f_rec : Nat → (List D → M D) × (List D → M D)
  | 0 => (fun _ _ => none, fun _ _ => none)
  | n + 1 => let p := f_rec n; (fDef 3 10 (d_grown p.1 p.2), fDef 4 10 (d_followed p.1 p.2))

theorem ok_rec (T : Bt mg) (F_grown : Fn K mg "grown" st_grown ["ledger", "index", "first"]) (F_followed : Fn K mg "followed" st_followed ["ledger", "chain", "thing", "first"]) : ∀ n : Nat, Cal P w K mg base (n + 1) "grown" ["ledger", "index", "first"] (f_rec n).1 ∧ Cal P w K mg base (n + 1) "followed" ["ledger", "chain", "thing", "first"] (f_rec n).2
  | 0 => ⟨F_grown.none sc_grown, F_followed.none sc_followed⟩
  | n + 1 => by
    obtain ⟨c_grown, c_followed⟩ := ok_rec T F_grown F_followed n
    exact ⟨ok_grown T F_grown (n + 1) _ _ c_grown c_followed, ok_followed T F_followed (n + 1) _ _ c_grown c_followed⟩

noncomputable def f_grown : List D → M D := (f_rec 110).1

noncomputable def f_followed : List D → M D := (f_rec 110).2

abbrev st_unfold : Stmt := topS 14
theorem sc_unfold : FnScope ["house", "rules", "item", "course", "moves", "things", "ledger", "chain", "adds", "place", "first", "thing", "more", "led"] ["house", "rules", "item", "course"] (defScope st_unfold) := ⟨rfl, rfl, rfl, by decide +kernel, rfl, by decide +kernel, by decide +kernel⟩
noncomputable def d_unfold : XDen :=
    (xSeq (xLift (sAsg (tTupD 2 (tMore (tName 4) (tMore (tName 5) tNone))) (dF f_course_cost (dCons (dVar 0) (dCons (dVar 1) (dCons (dVar 2) (dCons (dVar 3) dNil)))))))
    (xSeq (xIf (bOr (bVal (d2 gGt (dVar 4) (dC (.int 200)))) (bVal (d2 gGe (dVar 5) (dC (.int 200)))))
    (xRaise (dC (.int 200)))
    (xLift sSkip))
    (xLift (sSeq (sAsg (tTupD 2 (tMore (tName 6) (tMore (tName 7) tNone))) (dVar 3))
    (sSeq (sAsg (tTupD 3 (tMore (tName 8) (tMore (tName 9) (tMore (tName 10) tNone)))) (dF f_grown (dCons (dVar 6) (dCons (d2 gIx (dVar 7) (dC (.int 0))) (dCons (dC (.int 0)) dNil)))))
    (sSeq (sSet 11 (dF gLen (dCons (dVar 8) dNil)))
    (sSeq (sAsg (tTupD 2 (tMore (tName 12) (tMore (tName 13) tNone))) (dF f_followed (dCons (dVar 6) (dCons (dVar 7) (dCons (dVar 11) (dCons (d2 gAdd (dVar 11) (dC (.int 1))) dNil))))))
    (sRet (dF gTup (dCons (dF gTuple (dCons (d2 gAdd (d2 gAdd (dVar 8) (dF gLst (dCons (dF gTup (dCons (dVar 2) (dCons (dVar 9) dNil))) dNil))) (dVar 12)) dNil)) (dCons (dVar 11) (dCons (dF gTuple (dCons (d2 gAdd (dVar 10) (dVar 13)) dNil)) dNil))))))))))))
noncomputable def f_unfold : List D → M (D ⊕ D) := fDefX 4 14 d_unfold
theorem ok_unfold (T : Bt mg) (F : Fn K mg "unfold" st_unfold ["house", "rules", "item", "course"]) {C : Addr} (L : LimF P w K mg base "LimitExceeded" "limit" C) (c_course_cost : Cal P w K mg base 5 "course_cost" ["house", "rules", "item", "course"] f_course_cost) (c_grown : Cal P w K mg base 111 "grown" ["ledger", "index", "first"] f_grown) (c_followed : Cal P w K mg base 111 "followed" ["ledger", "chain", "thing", "first"] f_followed) (k_MOST_MADE : ∃ u, mg "MOST_MADE" = some u ∧ RelV (.int 200) u) : CalX P w K mg base 112 "unfold" ["house", "rules", "item", "course"] C "limit" f_unfold :=
  (F.calX (k := 111) (b := d_unfold) sc_unfold (fun f cdv A outer s H E hr hu =>
    (xs_cons (x_lift (s_asg (e_def c_course_cost (hr.mono (by decide)) (by rfl) (a_cons (e_var 0) (a_cons (e_var 1) (a_cons (e_var 2) (a_cons (e_var 3) a_nil))))) (g_tup rfl (gs_cons (g_name (i := 4) sc_unfold.nd rfl (by first | exact Or.inl rfl | exact Or.inr rfl)) (gs_cons (g_name (i := 5) sc_unfold.nd rfl (by first | exact Or.inl rfl | exact Or.inr rfl)) gs_nil)))))
    (xs_cons (x_if (w_or (b_cmp o_gt (e_var 4) (e_glob (by rfl) k_MOST_MADE.choose_spec.1 k_MOST_MADE.choose_spec.2 (fun _ _ => .int _))) (w_or1 (b_cmp o_ge (e_var 5) (e_glob (by rfl) k_MOST_MADE.choose_spec.1 k_MOST_MADE.choose_spec.2 (fun _ _ => .int _))))).pt
    (xs_one (x_rais L rfl (takes_of rfl rfl rfl rfl) (hr.mono (by decide)) (by rfl) (e_glob (by rfl) k_MOST_MADE.choose_spec.1 k_MOST_MADE.choose_spec.2 (fun _ _ => .int _))))
    (xs_lift ss_nil))
    (xs_lift (ss_cons (s_asg (e_var 3) (g_tup rfl (gs_cons (g_name (i := 6) sc_unfold.nd rfl (by first | exact Or.inl rfl | exact Or.inr rfl)) (gs_cons (g_name (i := 7) sc_unfold.nd rfl (by first | exact Or.inl rfl | exact Or.inr rfl)) gs_nil))))
    (ss_cons (s_asg (e_def c_grown (hr.mono (by decide)) (by rfl) (a_cons (e_var 6) (a_cons (e_ix x_ix (e_var 7) e_int) (a_cons e_int a_nil)))) (g_tup rfl (gs_cons (g_name (i := 8) sc_unfold.nd rfl (by first | exact Or.inl rfl | exact Or.inr rfl)) (gs_cons (g_name (i := 9) sc_unfold.nd rfl (by first | exact Or.inl rfl | exact Or.inr rfl)) (gs_cons (g_name (i := 10) sc_unfold.nd rfl (by first | exact Or.inl rfl | exact Or.inr rfl)) gs_nil)))))
    (ss_cons (s_set (i := 11) sc_unfold.nd rfl (Or.inl rfl) (e_callB c_len (by rfl) T.b_len PySem.boot_len (a_cons (e_var 8) a_nil)))
    (ss_cons (s_asg (e_def c_followed (hr.mono (by decide)) (by rfl) (a_cons (e_var 6) (a_cons (e_var 7) (a_cons (e_var 11) (a_cons (e_op o_add (e_var 11) e_int) a_nil))))) (g_tup rfl (gs_cons (g_name (i := 12) sc_unfold.nd rfl (by first | exact Or.inl rfl | exact Or.inr rfl)) (gs_cons (g_name (i := 13) sc_unfold.nd rfl (by first | exact Or.inl rfl | exact Or.inr rfl)) gs_nil))))
    (ss_one (s_ret (e_tup (a_cons (e_callTy c_tuple (by rfl) T.b_tuple (by decide +kernel) (a_cons (e_op o_add (e_op o_add (e_var 8) (e_lst (a_cons (e_tup (a_cons (e_var 2) (a_cons (e_var 9) a_nil))) a_nil))) (e_var 12)) a_nil)) (a_cons (e_var 11) (a_cons (e_callTy c_tuple (by rfl) T.b_tuple (by decide +kernel) (a_cons (e_op o_add (e_var 10) (e_var 13)) a_nil)) a_nil))))))))))))))).as rfl

abbrev st_law_stepped : Stmt := topS 16
theorem sc_law_stepped : FnScope ["_law_sizes", "_law_cells", "_law_step", "_law_word", "_law_cell", "_law_number"] ["_law_sizes", "_law_cells", "_law_step"] (defScope st_law_stepped) := ⟨rfl, rfl, rfl, by decide +kernel, rfl, by decide +kernel, by decide +kernel⟩
noncomputable def d_law_stepped : SDen :=
    (sSeq (sAsg (tTupD 3 (tMore (tName 3) (tMore (tName 4) (tMore (tName 5) tNone)))) (dVar 2))
    (sIf (bVal (d2 gEq (dVar 3) (dC (.str ("set" : String)))))
    (sSetIx (dVar 5) (dVar 1) (dVar 4) gSetL)
    (sIf (bVal (d2 gEq (dVar 3) (dC (.str ("raise" : String)))))
    (sSetIx (dF gMax2 (dCons (d2 gIx (dVar 1) (dVar 4)) (dCons (dVar 5) dNil))) (dVar 1) (dVar 4) gSetL)
    (sIf (bVal (d2 gEq (dVar 3) (dC (.str ("lower" : String)))))
    (sSetIx (dF gMin2 (dCons (d2 gIx (dVar 1) (dVar 4)) (dCons (dVar 5) dNil))) (dVar 1) (dVar 4) gSetL)
    (sSetIx (dF gMin2 (dCons (d2 gIx (dVar 1) (dVar 5)) (dCons (d2 gSub (d2 gIx (dVar 0) (dVar 4)) (dC (.int 1))) dNil))) (dVar 1) (dVar 4) gSetL)))))
noncomputable def f_law_stepped : List D → M D := fDef 3 6 d_law_stepped
theorem ok_law_stepped (T : Bt mg) (F : Fn K mg "_law_stepped" st_law_stepped ["_law_sizes", "_law_cells", "_law_step"]) : Cal P w K mg base 1 "_law_stepped" ["_law_sizes", "_law_cells", "_law_step"] f_law_stepped :=
  (F.cal (k := 0) (b := d_law_stepped) sc_law_stepped (fun f cdv A outer s H E hr hu =>
    (ss_cons (s_asg (e_var 2) (g_tup rfl (gs_cons (g_name (i := 3) sc_law_stepped.nd rfl (by first | exact Or.inl rfl | exact Or.inr rfl)) (gs_cons (g_name (i := 4) sc_law_stepped.nd rfl (by first | exact Or.inl rfl | exact Or.inr rfl)) (gs_cons (g_name (i := 5) sc_law_stepped.nd rfl (by first | exact Or.inl rfl | exact Or.inr rfl)) gs_nil)))))
    (ss_one (s_if (b_cmp (o_eq (Nat.lt_of_succ_lt hu)) (e_var 3) e_str)
    (ss_one (s_setIx (e_var 5) (e_var 1) (e_var 4) t_setL))
    (ss_one (s_if (b_cmp (o_eq (Nat.lt_of_succ_lt hu)) (e_var 3) e_str)
    (ss_one (s_setIx (e_callB (c_max2 rfl) (by rfl) T.b_max (by decide +kernel) (a_cons (e_ix x_ix (e_var 1) (e_var 4)) (a_cons (e_var 5) a_nil))) (e_var 1) (e_var 4) t_setL))
    (ss_one (s_if (b_cmp (o_eq (Nat.lt_of_succ_lt hu)) (e_var 3) e_str)
    (ss_one (s_setIx (e_callB (c_min2 rfl) (by rfl) T.b_min (by decide +kernel) (a_cons (e_ix x_ix (e_var 1) (e_var 4)) (a_cons (e_var 5) a_nil))) (e_var 1) (e_var 4) t_setL))
    (ss_one (s_setIx (e_callB (c_min2 rfl) (by rfl) T.b_min (by decide +kernel) (a_cons (e_ix x_ix (e_var 1) (e_var 5)) (a_cons (e_op o_sub (e_ix x_ix (e_var 0) (e_var 4)) e_int) a_nil))) (e_var 1) (e_var 4) t_setL))))))))))).as rfl

abbrev st_law_made : Stmt := topS 17
theorem sc_law_made : FnScope ["_law_house", "_law_content_here", "_law_kind", "_law_cells", "_law_step"] ["_law_house", "_law_content_here", "_law_kind"] (defScope st_law_made) := ⟨rfl, rfl, rfl, by decide +kernel, rfl, by decide +kernel, by decide +kernel⟩
noncomputable def d_law_made : SDen :=
    (sSeq (sSet 3 (dF gListN (dCons (dVar 1) dNil)))
    (sSeq (sFor (iSeq (d2 gIx (d2 gIx (dVar 0) (dC (.int 2))) (dVar 2))) (tName 4)
    (sIf (bVal (d2 gNe (d2 gIx (dVar 4) (dC (.int 0))) (dC (.str ("when" : String)))))
    (sDrop (dF f_law_stepped (dCons (d2 gIx (dVar 0) (dC (.int 0))) (dCons (dVar 3) (dCons (dVar 4) dNil)))))
    (sIf (bVal (dChain gLe gLe (d2 gIx (dVar 4) (dC (.int 2))) (d2 gIx (dVar 3) (d2 gIx (dVar 4) (dC (.int 1)))) (d2 gIx (dVar 4) (dC (.int 3)))))
    (sDrop (dF f_law_stepped (dCons (d2 gIx (dVar 0) (dC (.int 0))) (dCons (dVar 3) (dCons (d2 gIx (dVar 4) (dC (.int 4))) dNil)))))
    sSkip)))
    (sRet (dF gTuple (dCons (dVar 3) dNil)))))
noncomputable def f_law_made : List D → M D := pureD (fDef 3 5 d_law_made)
theorem ok_law_made (T : Bt mg) (F : Fn K mg "_law_made" st_law_made ["_law_house", "_law_content_here", "_law_kind"]) (c_law_stepped : Cal P w K mg base 1 "_law_stepped" ["_law_sizes", "_law_cells", "_law_step"] f_law_stepped) : Cal P w K mg base 2 "_law_made" ["_law_house", "_law_content_here", "_law_kind"] f_law_made :=
  (F.cal (k := 1) (b := d_law_made) sc_law_made (fun f cdv A outer s H E hr hu =>
    (ss_cons (s_set (i := 3) sc_law_made.nd rfl (Or.inl rfl) (e_callTy c_listN (by rfl) T.b_list (by decide +kernel) (a_cons (e_var 1) a_nil)))
    (ss_cons (s_for PassesOwn.never rfl (i_seq (e_ix x_ix (e_ix x_ix (e_var 0) e_int) (e_var 2))) (g_name (i := 4) sc_law_made.nd rfl (by first | exact Or.inl rfl | exact Or.inr rfl))
    (ss_one (s_if (b_cmp (o_ne (Nat.lt_of_succ_lt hu)) (e_ix x_ix (e_var 4) e_int) e_str)
    (ss_one (s_expr (e_def c_law_stepped (hr.mono (by decide)) (by rfl) (a_cons (e_ix x_ix (e_var 0) e_int) (a_cons (e_var 3) (a_cons (e_var 4) a_nil))))))
    (ss_one (s_if (b_chain o_le o_le (e_ix x_ix (e_var 4) e_int) (e_ix x_ix (e_var 3) (e_ix x_ix (e_var 4) e_int)) (e_ix x_ix (e_var 4) e_int))
    (ss_one (s_expr (e_def c_law_stepped (hr.mono (by decide)) (by rfl) (a_cons (e_ix x_ix (e_var 0) e_int) (a_cons (e_var 3) (a_cons (e_ix x_ix (e_var 4) e_int) a_nil))))))
    ss_nil)))))
    (ss_one (s_ret (e_callTy c_tuple (by rfl) T.b_tuple (by decide +kernel) (a_cons (e_var 3) a_nil)))))))).pure

abbrev st_law_path : Stmt := topS 18
theorem sc_law_path : FnScope ["_law_tree", "_law_thing", "_law_found"] ["_law_tree", "_law_thing"] (defScope st_law_path) := ⟨rfl, rfl, rfl, by decide +kernel, rfl, by decide +kernel, by decide +kernel⟩
noncomputable def d_law_path : SDen :=
    (sSeq (sSet 2 (dF gNew (dCons (dVar 1) dNil)))
    (sSeq (sWhile (bVal (d2 gGe (d2 gIx (d2 gIx (dVar 0) (d2 gIx (dVar 2) (dC (.int 0)))) (dC (.int 1))) (dC (.int 0))))
    (sDrop (dML gInsert (dVar 2) (dCons (dC (.int 0)) (dCons (d2 gIx (d2 gIx (dVar 0) (d2 gIx (dVar 2) (dC (.int 0)))) (dC (.int 1))) dNil)))))
    (sRet (dVar 2))))
noncomputable def f_law_path : List D → M D := pureD (fDef 2 3 d_law_path)
theorem ok_law_path (T : Bt mg) (F : Fn K mg "_law_path" st_law_path ["_law_tree", "_law_thing"]) : Cal P w K mg base 1 "_law_path" ["_law_tree", "_law_thing"] f_law_path :=
  (F.cal (k := 0) (b := d_law_path) sc_law_path (fun f cdv A outer s H E hr hu =>
    (ss_cons (s_set (i := 2) sc_law_path.nd rfl (Or.inl rfl) (e_new (a_cons (e_var 1) a_nil)))
    (ss_cons (s_while PassesOwn.never (b_cmp o_ge (e_ix x_ix (e_ix x_ix (e_var 0) (e_ix x_ix (e_var 2) e_int)) e_int) e_int)
    (ss_one (s_expr (e_lm PySem.F.slot_list_insert PySem.F.type_list_insert m_insert (e_var 2) (a_cons e_int (a_cons (e_ix x_ix (e_ix x_ix (e_var 0) (e_ix x_ix (e_var 2) e_int)) e_int) a_nil))))))
    (ss_one (s_ret (e_var 2))))))).pure

abbrev st_law_content : Stmt := topS 19
theorem sc_law_content : FnScope ["_law_house", "_law_tree", "_law_thing", "_law_content_here", "_law_folder"] ["_law_house", "_law_tree", "_law_thing"] (defScope st_law_content) := ⟨rfl, rfl, rfl, by decide +kernel, rfl, by decide +kernel, by decide +kernel⟩
noncomputable def d_law_content : SDen :=
    (sSeq (sSet 3 (d2 gIx (dVar 0) (dC (.int 1))))
    (sSeq (sFor (iSeq (dSl (dF f_law_path (dCons (dVar 1) (dCons (dVar 2) dNil))) oNo (oPart (d1 gNeg (dC (.int 1)))))) (tName 4)
    (sSet 3 (dF f_law_made (dCons (dVar 0) (dCons (dVar 3) (dCons (d2 gIx (d2 gIx (dVar 1) (dVar 4)) (dC (.int 0))) dNil))))))
    (sRet (dVar 3))))
noncomputable def f_law_content : List D → M D := fDef 3 5 d_law_content
theorem ok_law_content (T : Bt mg) (F : Fn K mg "_law_content" st_law_content ["_law_house", "_law_tree", "_law_thing"]) (c_law_path : Cal P w K mg base 1 "_law_path" ["_law_tree", "_law_thing"] f_law_path) (c_law_made : Cal P w K mg base 2 "_law_made" ["_law_house", "_law_content_here", "_law_kind"] f_law_made) : Cal P w K mg base 3 "_law_content" ["_law_house", "_law_tree", "_law_thing"] f_law_content :=
  (F.cal (k := 2) (b := d_law_content) sc_law_content (fun f cdv A outer s H E hr hu =>
    (ss_cons (s_set (i := 3) sc_law_content.nd rfl (Or.inl rfl) (e_ix x_ix (e_var 0) e_int))
    (ss_cons (s_for PassesOwn.never rfl (i_seq (e_sl (e_def c_law_path (hr.mono (by decide)) (by rfl) (a_cons (e_var 1) (a_cons (e_var 2) a_nil))) po_no (po_part (e_un u_neg e_int)))) (g_name (i := 4) sc_law_content.nd rfl (by first | exact Or.inl rfl | exact Or.inr rfl))
    (ss_one (s_set (i := 3) sc_law_content.nd rfl (Or.inl rfl) (e_def c_law_made (hr.mono (by decide)) (by rfl) (a_cons (e_var 0) (a_cons (e_var 3) (a_cons (e_ix x_ix (e_ix x_ix (e_var 1) (e_var 4)) e_int) a_nil)))))))
    (ss_one (s_ret (e_var 3))))))).as rfl

abbrev st_law_place : Stmt := topS 20
theorem sc_law_place : FnScope ["_law_house", "_law_tree", "_law_target", "_law_content_here"] ["_law_house", "_law_tree", "_law_target"] (defScope st_law_place) := ⟨rfl, rfl, rfl, by decide +kernel, rfl, by decide +kernel, by decide +kernel⟩
noncomputable def d_law_place : SDen :=
    (sSeq (sIf (bVal (d2 gLt (dVar 2) (dC (.int 0))))
    (sRet (d2 gIx (dVar 0) (dC (.int 1))))
    sSkip)
    (sSeq (sSet 3 (dF f_law_content (dCons (dVar 0) (dCons (dVar 1) (dCons (dVar 2) dNil)))))
    (sRet (dF f_law_made (dCons (dVar 0) (dCons (dVar 3) (dCons (d2 gIx (d2 gIx (dVar 1) (dVar 2)) (dC (.int 0))) dNil)))))))
noncomputable def f_law_place : List D → M D := fDef 3 4 d_law_place
theorem ok_law_place (T : Bt mg) (F : Fn K mg "_law_place" st_law_place ["_law_house", "_law_tree", "_law_target"]) (c_law_content : Cal P w K mg base 3 "_law_content" ["_law_house", "_law_tree", "_law_thing"] f_law_content) (c_law_made : Cal P w K mg base 2 "_law_made" ["_law_house", "_law_content_here", "_law_kind"] f_law_made) : Cal P w K mg base 4 "_law_place" ["_law_house", "_law_tree", "_law_target"] f_law_place :=
  (F.cal (k := 3) (b := d_law_place) sc_law_place (fun f cdv A outer s H E hr hu =>
    (ss_cons (s_if (b_cmp o_lt (e_var 2) e_int)
    (ss_one (s_ret (e_ix x_ix (e_var 0) e_int)))
    ss_nil)
    (ss_cons (s_set (i := 3) sc_law_place.nd rfl (Or.inl rfl) (e_def c_law_content (hr.mono (by decide)) (by rfl) (a_cons (e_var 0) (a_cons (e_var 1) (a_cons (e_var 2) a_nil)))))
    (ss_one (s_ret (e_def c_law_made (hr.mono (by decide)) (by rfl) (a_cons (e_var 0) (a_cons (e_var 3) (a_cons (e_ix x_ix (e_ix x_ix (e_var 1) (e_var 2)) e_int) a_nil)))))))))).as rfl

abbrev st_law_letting : Stmt := topS 21
theorem sc_law_letting : FnScope ["_law_house", "_law_rules", "_law_tree", "_law_thing", "_law_target", "_law_ahead", "_law_goal", "_law_index", "_law_item", "_law_starts", "_law_goals"] ["_law_house", "_law_rules", "_law_tree", "_law_thing", "_law_target"] (defScope st_law_letting) := ⟨rfl, rfl, rfl, by decide +kernel, rfl, by decide +kernel, by decide +kernel⟩
noncomputable def d_law_letting : SDen :=
    (sSeq (sIf (bAnd (bVal (d2 gGe (dVar 4) (dC (.int 0)))) (bVal (d2 gEq (d2 gIx (d2 gIx (dVar 2) (dVar 4)) (dC (.int 0))) (dF gLen (dCons (d2 gIx (dVar 0) (dC (.int 2))) dNil)))))
    (sRet (dC .none))
    sSkip)
    (sSeq (sIf (bAnd (bVal (d2 gGe (dVar 4) (dC (.int 0)))) (bVal (d2 gIn (dVar 3) (dF f_law_path (dCons (dVar 2) (dCons (dVar 4) dNil))))))
    (sRet (dC .none))
    sSkip)
    (sSeq (sSet 5 (dF f_law_content (dCons (dVar 0) (dCons (dVar 2) (dCons (dVar 3) dNil)))))
    (sSeq (sSet 6 (dF f_law_place (dCons (dVar 0) (dCons (dVar 2) (dCons (dVar 4) dNil)))))
    (sSeq (sFor (iEnumD (dVar 1)) (tTupD 2 (tMore (tName 7) (tMore (tTupD 3 (tMore (tName 8) (tMore (tName 9) (tMore (tName 10) tNone)))) tNone)))
    (sIf (bAnd (bVal (d2 gEq (dVar 8) (d2 gIx (d2 gIx (dVar 2) (dVar 3)) (dC (.int 0))))) (bAnd (bVal (d2 gIn (dVar 5) (dVar 9))) (bVal (d2 gIn (dVar 6) (dVar 10)))))
    (sRet (dVar 7))
    sSkip))
    (sRet (dC .none)))))))
noncomputable def f_law_letting : List D → M D := fDef 5 11 d_law_letting
theorem ok_law_letting (T : Bt mg) (F : Fn K mg "_law_letting" st_law_letting ["_law_house", "_law_rules", "_law_tree", "_law_thing", "_law_target"]) (c_law_path : Cal P w K mg base 1 "_law_path" ["_law_tree", "_law_thing"] f_law_path) (c_law_content : Cal P w K mg base 3 "_law_content" ["_law_house", "_law_tree", "_law_thing"] f_law_content) (c_law_place : Cal P w K mg base 4 "_law_place" ["_law_house", "_law_tree", "_law_target"] f_law_place) : Cal P w K mg base 5 "_law_letting" ["_law_house", "_law_rules", "_law_tree", "_law_thing", "_law_target"] f_law_letting :=
  (F.cal (k := 4) (b := d_law_letting) sc_law_letting (fun f cdv A outer s H E hr hu =>
    (ss_cons (s_if (w_and (b_cmp o_ge (e_var 4) e_int) (w_and1 (b_cmp (o_eq (Nat.lt_of_succ_lt hu)) (e_ix x_ix (e_ix x_ix (e_var 2) (e_var 4)) e_int) (e_callB c_len (by rfl) T.b_len PySem.boot_len (a_cons (e_ix x_ix (e_var 0) e_int) a_nil))))).pt
    (ss_one (s_ret e_non))
    ss_nil)
    (ss_cons (s_if (w_and (b_cmp o_ge (e_var 4) e_int) (w_and1 (b_cmp (o_in hu) (e_var 3) (e_def c_law_path (hr.mono (by decide)) (by rfl) (a_cons (e_var 2) (a_cons (e_var 4) a_nil))) (by rfl)))).pt
    (ss_one (s_ret e_non))
    ss_nil)
    (ss_cons (s_set (i := 5) sc_law_letting.nd rfl (Or.inl rfl) (e_def c_law_content (hr.mono (by decide)) (by rfl) (a_cons (e_var 0) (a_cons (e_var 2) (a_cons (e_var 3) a_nil)))))
    (ss_cons (s_set (i := 6) sc_law_letting.nd rfl (Or.inl rfl) (e_def c_law_place (hr.mono (by decide)) (by rfl) (a_cons (e_var 0) (a_cons (e_var 2) (a_cons (e_var 4) a_nil)))))
    (ss_cons (s_for PassesOwn.never rfl (i_enum (by rfl) T.b_enumerate (e_var 1)) (g_tup rfl (gs_cons (g_name (i := 7) sc_law_letting.nd rfl (by first | exact Or.inl rfl | exact Or.inr rfl)) (gs_cons (g_tup rfl (gs_cons (g_name (i := 8) sc_law_letting.nd rfl (by first | exact Or.inl rfl | exact Or.inr rfl)) (gs_cons (g_name (i := 9) sc_law_letting.nd rfl (by first | exact Or.inl rfl | exact Or.inr rfl)) (gs_cons (g_name (i := 10) sc_law_letting.nd rfl (by first | exact Or.inl rfl | exact Or.inr rfl)) gs_nil)))) gs_nil)))
    (ss_one (s_if (w_and (b_cmp (o_eq (Nat.lt_of_succ_lt hu)) (e_var 8) (e_ix x_ix (e_ix x_ix (e_var 2) (e_var 3)) e_int)) (w_and (b_cmp (o_in hu) (e_var 5) (e_var 9) (by rfl)) (w_and1 (b_cmp (o_in hu) (e_var 6) (e_var 10) (by rfl))))).pt
    (ss_one (s_ret (e_var 7)))
    ss_nil)))
    (ss_one (s_ret e_non))))))))).as rfl

abbrev st_law_moved : Stmt := topS 22
theorem sc_law_moved : FnScope ["_law_tree", "_law_thing", "_law_target"] ["_law_tree", "_law_thing", "_law_target"] (defScope st_law_moved) := ⟨rfl, rfl, rfl, by decide +kernel, rfl, by decide +kernel, by decide +kernel⟩
noncomputable def d_law_moved : SDen :=
    (sRet (d2 gAdd (d2 gAdd (dSl (dVar 0) oNo (oPart (dVar 1))) (dF gTup (dCons (dF gTup (dCons (d2 gIx (d2 gIx (dVar 0) (dVar 1)) (dC (.int 0))) (dCons (dVar 2) dNil))) dNil))) (dSl (dVar 0) (oPart (d2 gAdd (dVar 1) (dC (.int 1)))) oNo)))
noncomputable def f_law_moved : List D → M D := fDef 3 3 d_law_moved
theorem ok_law_moved (T : Bt mg) (F : Fn K mg "_law_moved" st_law_moved ["_law_tree", "_law_thing", "_law_target"]) : Cal P w K mg base 1 "_law_moved" ["_law_tree", "_law_thing", "_law_target"] f_law_moved :=
  (F.cal (k := 0) (b := d_law_moved) sc_law_moved (fun f cdv A outer s H E hr hu =>
    (ss_one (s_ret (e_op o_add (e_op o_add (e_sl (e_var 0) po_no (po_part (e_var 1))) (e_tup (a_cons (e_tup (a_cons (e_ix x_ix (e_ix x_ix (e_var 0) (e_var 1)) e_int) (a_cons (e_var 2) a_nil))) a_nil))) (e_sl (e_var 0) (po_part (e_op o_add (e_var 1) e_int)) po_no)))))).as rfl

abbrev st_law_ground : Stmt := topS 23
theorem sc_law_ground : FnScope [] [] (defScope st_law_ground) := ⟨rfl, rfl, rfl, by decide +kernel, rfl, by decide +kernel, by decide +kernel⟩
noncomputable def d_law_ground : SDen :=
    (sRet (dF gTup (dCons (dF gTup (dCons (dF gTup (dCons (dC (.int 2)) dNil)) (dCons (dF gTup (dCons (dC (.int 0)) dNil)) (dCons (dF gTup (dCons (dF gTup dNil) dNil)) dNil)))) (dCons (dF gTup (dCons (dF gTup (dCons (dC (.int 0)) (dCons (dF gTup (dCons (dF gTup (dCons (dC (.int 0)) dNil)) dNil)) (dCons (dF gTup (dCons (dF gTup (dCons (dC (.int 0)) dNil)) dNil)) dNil)))) (dCons (dF gTup (dCons (dC (.int 1)) (dCons (dF gTup (dCons (dF gTup (dCons (dC (.int 0)) dNil)) dNil)) (dCons (dF gTup (dCons (dF gTup (dCons (dC (.int 0)) dNil)) dNil)) dNil)))) dNil))) dNil))))
noncomputable def f_law_ground : List D → M D := fDef 0 0 d_law_ground
theorem ok_law_ground (T : Bt mg) (F : Fn K mg "_law_ground" st_law_ground []) : Cal P w K mg base 1 "_law_ground" [] f_law_ground :=
  (F.cal (k := 0) (b := d_law_ground) sc_law_ground (fun f cdv A outer s H E hr hu =>
    (ss_one (s_ret (e_tup (a_cons (e_tup (a_cons (e_tup (a_cons e_int a_nil)) (a_cons (e_tup (a_cons e_int a_nil)) (a_cons (e_tup (a_cons (e_tup a_nil) a_nil)) a_nil)))) (a_cons (e_tup (a_cons (e_tup (a_cons e_int (a_cons (e_tup (a_cons (e_tup (a_cons e_int a_nil)) a_nil)) (a_cons (e_tup (a_cons (e_tup (a_cons e_int a_nil)) a_nil)) a_nil)))) (a_cons (e_tup (a_cons e_int (a_cons (e_tup (a_cons (e_tup (a_cons e_int a_nil)) a_nil)) (a_cons (e_tup (a_cons (e_tup (a_cons e_int a_nil)) a_nil)) a_nil)))) a_nil))) a_nil))))))).as rfl

abbrev st_law_counted : Stmt := topS 24
theorem sc_law_counted : FnScope ["_law_course", "_law_house", "_law_rules", "_law_tree", "_law_thing", "_law_moves", "e", "_law_one", "_law_target"] ["_law_course"] (defScope st_law_counted) := ⟨rfl, rfl, rfl, by decide +kernel, rfl, by decide +kernel, by decide +kernel⟩
noncomputable def d_law_counted : SDen :=
    (sSeq (sAsg (tTupD 2 (tMore (tName 1) (tMore (tName 2) tNone))) (dF f_law_ground dNil))
    (sSeq (sTryX 6 (xAsg f_unfold (dCons (dVar 1) (dCons (dVar 2) (dCons (dC (.int 1)) (dCons (dVar 0) dNil)))) (tTupD 3 (tMore (tName 3) (tMore (tName 4) (tMore (tName 5) tNone))))))
    (sSeq (sFor (iSeq (dVar 5)) (tTupD 2 (tMore (tName 7) (tMore (tName 8) tNone)))
    (sSeq (sIf (bVal (dIsN (dF f_law_letting (dCons (dVar 1) (dCons (dVar 2) (dCons (dVar 3) (dCons (dVar 7) (dCons (dVar 8) dNil))))))))
    (sRet (dC .none))
    sSkip)
    (sSet 3 (dF f_law_moved (dCons (dVar 3) (dCons (dVar 7) (dCons (dVar 8) dNil)))))))
    (sRet (dIf (bVal (d2 gEq (d2 gIx (d2 gIx (dVar 3) (dVar 4)) (dC (.int 0))) (dC (.int 1)))) (dF gTup (dCons (dF gLen (dCons (dVar 3) dNil)) (dCons (dF gLen (dCons (dVar 5) dNil)) dNil))) (dC .none))))))
noncomputable def f_law_counted : List D → M D := fDef 1 9 d_law_counted
theorem ok_law_counted (T : Bt mg) (F : Fn K mg "_law_counted" st_law_counted ["_law_course"]) {C : Addr} (L : LimF P w K mg base "LimitExceeded" "limit" C) (c_law_ground : Cal P w K mg base 1 "_law_ground" [] f_law_ground) (c_law_letting : Cal P w K mg base 5 "_law_letting" ["_law_house", "_law_rules", "_law_tree", "_law_thing", "_law_target"] f_law_letting) (c_law_moved : Cal P w K mg base 1 "_law_moved" ["_law_tree", "_law_thing", "_law_target"] f_law_moved) (c_unfold : CalX P w K mg base 112 "unfold" ["house", "rules", "item", "course"] C "limit" f_unfold) : Cal P w K mg base 113 "_law_counted" ["_law_course"] f_law_counted :=
  (F.cal (k := 112) (b := d_law_counted) sc_law_counted (fun f cdv A outer s H E hr hu =>
    (ss_cons (s_asg (e_def0 c_law_ground (hr.mono (by decide)) (by rfl)) (g_tup rfl (gs_cons (g_name (i := 1) sc_law_counted.nd rfl (by first | exact Or.inl rfl | exact Or.inr rfl)) (gs_cons (g_name (i := 2) sc_law_counted.nd rfl (by first | exact Or.inl rfl | exact Or.inr rfl)) gs_nil))))
    (ss_cons (s_tryX (i := 6) L.lim rfl rfl sc_law_counted.nd rfl rfl ⟨rfl, by decide, .inl L.gC⟩ (fun W pn xe tk =>
    (xs_one (x_def c_unfold (hr.mono (by decide)) (by rfl) tk (a_cons (e_var 1) (a_cons (e_var 2) (a_cons e_int (a_cons (e_var 0) a_nil)))) (g_tup rfl (gs_cons (g_name (i := 3) sc_law_counted.nd rfl (by first | exact Or.inl rfl | exact Or.inr rfl)) (gs_cons (g_name (i := 4) sc_law_counted.nd rfl (by first | exact Or.inl rfl | exact Or.inr rfl)) (gs_cons (g_name (i := 5) sc_law_counted.nd rfl (by first | exact Or.inl rfl | exact Or.inr rfl)) gs_nil))))))))
    (ss_cons (s_for PassesOwn.never rfl (i_seq (e_var 5)) (g_tup rfl (gs_cons (g_name (i := 7) sc_law_counted.nd rfl (by first | exact Or.inl rfl | exact Or.inr rfl)) (gs_cons (g_name (i := 8) sc_law_counted.nd rfl (by first | exact Or.inl rfl | exact Or.inr rfl)) gs_nil)))
    (ss_cons (s_if (b_isN (e_def c_law_letting (hr.mono (by decide)) (by rfl) (a_cons (e_var 1) (a_cons (e_var 2) (a_cons (e_var 3) (a_cons (e_var 7) (a_cons (e_var 8) a_nil)))))))
    (ss_one (s_ret e_non))
    ss_nil)
    (ss_one (s_set (i := 3) sc_law_counted.nd rfl (Or.inl rfl) (e_def c_law_moved (hr.mono (by decide)) (by rfl) (a_cons (e_var 3) (a_cons (e_var 7) (a_cons (e_var 8) a_nil))))))))
    (ss_one (s_ret (e_if (b_cmp (o_eq (Nat.lt_of_succ_lt hu)) (e_ix x_ix (e_ix x_ix (e_var 3) (e_var 4)) e_int) e_int) (e_tup (a_cons (e_callB c_len (by rfl) T.b_len PySem.boot_len (a_cons (e_var 3) a_nil)) (a_cons (e_callB c_len (by rfl) T.b_len PySem.boot_len (a_cons (e_var 5) a_nil)) a_nil))) e_non)))))))).as rfl

abbrev st_law_things_right : Stmt := topS 25
theorem sc_law_things_right : FnScope ["_law_more", "_law_ledger", "_law_told", "_law_at", "_law_last"] ["_law_more"] (defScope st_law_things_right) := ⟨rfl, rfl, rfl, by decide +kernel, rfl, by decide +kernel, by decide +kernel⟩
noncomputable def d_law_things_right : SDen :=
    (sSeq (sSet 1 (d2 gAdd (dF gTup (dCons (dF gTup (dCons (dC (.str ("root" : String))) dNil)) dNil)) (dF gTuple (dCons (dLc [3] (iRange1 (dCons (dC (.int 99)) dNil)) (tName 3) bYes (dF gTup (dCons (dC (.int 0)) (dCons (dF gTup (dCons (dVar 3) dNil)) dNil)))) dNil))))
    (sSeq (sSet 2 (dLc [4] (iSeq (dF gTup (dCons (dC (.int 0)) (dCons (dC (.int 1)) (dCons (dC (.int 2)) dNil))))) (tName 4) bYes (dF f_law_counted (dCons (dF gTup (dCons (dVar 1) (dCons (dF gTup (dCons (dC (.int 99)) (dCons (dC (.int 1)) (dCons (dC (.int 99)) (dCons (dC (.int 1)) (dCons (dVar 4) dNil)))))) dNil))) dNil))))
    (sSeq (sIf (bOr (bVal (d2 gNe (dVar 2) (dF gLst (dCons (dF gTup (dCons (dC (.int 199)) (dCons (dC (.int 2)) dNil))) (dCons (dF gTup (dCons (dC (.int 200)) (dCons (dC (.int 2)) dNil))) (dCons (dC (.int 200)) dNil)))))) (bVal (d2 gNe (dF f_law_counted (dCons (dF gTup (dCons (dVar 1) (dCons (dF gTup (dCons (d2 gSub (dC (.int 99)) (dVar 0)) (dCons (dC (.int 1)) (dCons (dC (.int 99)) (dCons (dC (.int 1)) (dCons (d2 gAdd (dC (.int 1)) (dVar 0)) dNil)))))) dNil))) dNil)) (dF gTup (dCons (dC (.int 200)) (dCons (dC (.int 2)) dNil))))))
    (sRet (dC (.bool false)))
    sSkip)
    (sRet (dAndV (d2 gEq (dF f_law_counted (dCons (dF gTup (dCons (dVar 1) (dCons (dF gTup (dCons (d2 gSub (dC (.int 99)) (dVar 0)) (dCons (dC (.int 1)) (dCons (dC (.int 99)) (dCons (dC (.int 1)) (dCons (d2 gAdd (dC (.int 2)) (dVar 0)) dNil)))))) dNil))) dNil)) (dC (.int 200))) (d2 gEq (dF f_law_counted (dCons (dF gTup (dCons (dVar 1) (dCons (dF gTup (dCons (dC (.int 0)) dNil)) dNil))) dNil)) (dF gTup (dCons (dC (.int 1)) (dCons (dC (.int 0)) dNil)))))))))
noncomputable def f_law_things_right : List D → M D := fDef 1 5 d_law_things_right
theorem ok_law_things_right (T : Bt mg) (F : Fn K mg "_law_things_right" st_law_things_right ["_law_more"]) (c_law_counted : Cal P w K mg base 113 "_law_counted" ["_law_course"] f_law_counted) : Cal P w K mg base 114 "_law_things_right" ["_law_more"] f_law_things_right :=
  (F.cal (k := 113) (b := d_law_things_right) sc_law_things_right (fun f cdv A outer s H E hr hu =>
    (ss_cons (s_set (i := 1) sc_law_things_right.nd rfl (Or.inr rfl) (e_op o_add (e_tup (a_cons (e_tup (a_cons e_str a_nil)) a_nil)) (e_callTy c_tuple (by rfl) T.b_tuple (by decide +kernel) (a_cons (e_lc [("_law_at", 3)] rfl sc_law_things_right.nd (i_range1 (by rfl) T.b_range (a_cons e_int a_nil)) (blkOk_by (N := ["_law_more", "_law_ledger", "_law_told", "_law_at", "_law_last"]) (sc := defScope st_law_things_right) (by decide +kernel)) (fun _ _ _ _ _ => (g_name (i := 3) sc_law_things_right.nd rfl (by first | exact Or.inl rfl | exact Or.inr rfl))) (fun _ _ _ _ _ => ts_nil) (fun _ _ _ _ _ => (e_tup (a_cons e_int (a_cons (e_tup (a_cons (e_var 3) a_nil)) a_nil))))) a_nil))))
    (ss_cons (s_setLc (i := 2) [("_law_last", 4)] rfl sc_law_things_right.nd rfl rfl (sw_true rfl rfl rfl (by decide +kernel)) (i_seq (e_tup (a_cons e_int (a_cons e_int (a_cons e_int a_nil))))) (blkOk_by (N := ["_law_more", "_law_ledger", "_law_told", "_law_at", "_law_last"]) (sc := defScope st_law_things_right) (by decide +kernel)) (fun _ _ _ _ _ => (g_name (i := 4) sc_law_things_right.nd rfl (by first | exact Or.inl rfl | exact Or.inr rfl))) (fun _ _ _ _ _ => ts_nil) (fun _ _ _ _ _ => (e_def c_law_counted (hr.mono (by decide)) (by rfl) (a_cons (e_tup (a_cons (e_var 1) (a_cons (e_tup (a_cons e_int (a_cons e_int (a_cons e_int (a_cons e_int (a_cons (e_var 4) a_nil)))))) a_nil))) a_nil))))
    (ss_cons (s_if (w_or (b_cmp (o_ne (Nat.lt_of_succ_lt hu)) (e_var 2) (e_lst (a_cons (e_tup (a_cons e_int (a_cons e_int a_nil))) (a_cons (e_tup (a_cons e_int (a_cons e_int a_nil))) (a_cons e_int a_nil))))) (w_or1 (b_cmp (o_ne (Nat.lt_of_succ_lt hu)) (e_def c_law_counted (hr.mono (by decide)) (by rfl) (a_cons (e_tup (a_cons (e_var 1) (a_cons (e_tup (a_cons (e_op o_sub e_int (e_var 0)) (a_cons e_int (a_cons e_int (a_cons e_int (a_cons (e_op o_add e_int (e_var 0)) a_nil)))))) a_nil))) a_nil)) (e_tup (a_cons e_int (a_cons e_int a_nil)))))).pt
    (ss_one (s_ret e_bl))
    ss_nil)
    (ss_one (s_ret (e_and (e_cmp (o_eq (Nat.lt_of_succ_lt hu)) (e_def c_law_counted (hr.mono (by decide)) (by rfl) (a_cons (e_tup (a_cons (e_var 1) (a_cons (e_tup (a_cons (e_op o_sub e_int (e_var 0)) (a_cons e_int (a_cons e_int (a_cons e_int (a_cons (e_op o_add e_int (e_var 0)) a_nil)))))) a_nil))) a_nil)) e_int) (e_one (e_cmp (o_eq (Nat.lt_of_succ_lt hu)) (e_def c_law_counted (hr.mono (by decide)) (by rfl) (a_cons (e_tup (a_cons (e_var 1) (a_cons (e_tup (a_cons e_int a_nil)) a_nil))) a_nil)) (e_tup (a_cons e_int (a_cons e_int a_nil))))))))))))).as rfl

abbrev st_law_moves_right : Stmt := topS 26
theorem sc_law_moves_right : FnScope ["_law_ledger", "_law_told", "_law_last", "_law_many"] [] (defScope st_law_moves_right) := ⟨rfl, rfl, rfl, by decide +kernel, rfl, by decide +kernel, by decide +kernel⟩
noncomputable def d_law_moves_right : SDen :=
    (sSeq (sSet 0 (dF gTup (dCons (dF gTup (dCons (dC (.str ("root" : String))) dNil)) (dCons (dF gTup (dCons (dC (.int 0)) (dCons (d2 gAdd (dF gTup (dCons (dC (.int 0)) dNil)) (d2 gMul (dF gTup (dCons (dC (.int 0)) (dCons (dC (.int 0)) dNil))) (dC (.int 8)))) dNil))) (dCons (dF gTup (dCons (dC (.int 0)) (dCons (d2 gAdd (dF gTup (dCons (dC (.int 1)) dNil)) (d2 gMul (dF gTup (dCons (dC (.int 0)) (dCons (dC (.int 1)) dNil))) (dC (.int 8)))) dNil))) (dCons (dF gTup (dCons (dC (.int 0)) (dCons (dF gTup (dCons (dC (.int 0)) (dCons (dC (.int 0)) (dCons (dC (.int 0)) dNil)))) dNil))) dNil))))))
    (sSeq (sSet 1 (dLc [2] (iSeq (dF gTup (dCons (dC (.int 0)) (dCons (dC (.int 3)) dNil)))) (tName 2) bYes (dF f_law_counted (dCons (dF gTup (dCons (dVar 0) (dCons (d2 gAdd (d2 gAdd (d2 gAdd (dF gTup (dCons (dC (.int 2)) (dCons (dC (.int 1)) (dCons (dC (.int 2)) dNil)))) (d2 gMul (dF gTup (dCons (dC (.int 1)) (dCons (dC (.int 1)) dNil))) (dC (.int 4)))) (d2 gMul (dF gTup (dCons (dC (.int 1)) (dCons (dC (.int 0)) dNil))) (dC (.int 2)))) (dF gTup (dCons (dC (.int 1)) (dCons (dVar 2) dNil)))) dNil))) dNil))))
    (sSeq (sIf (bVal (d2 gNe (dVar 1) (dF gLst (dCons (dF gTup (dCons (dC (.int 25)) (dCons (dC (.int 200)) dNil))) (dCons (dC (.int 200)) dNil)))))
    (sRet (dC (.bool false)))
    sSkip)
    (sSeq (sSet 1 (dLc [3] (iRange1 (dCons (dC (.int 4)) dNil)) (tName 3) bYes (dF f_law_counted (dCons (dF gTup (dCons (dVar 0) (dCons (d2 gAdd (d2 gAdd (dF gTup (dCons (dC (.int 2)) (dCons (dC (.int 1)) (dCons (dC (.int 2)) dNil)))) (d2 gMul (dF gTup (dCons (dC (.int 1)) (dCons (dC (.int 1)) dNil))) (dC (.int 4)))) (d2 gMul (dF gTup (dCons (dC (.int 1)) (dCons (dC (.int 0)) dNil))) (dVar 3))) dNil))) dNil))))
    (sRet (d2 gEq (dVar 1) (dF gLst (dCons (dF gTup (dCons (dC (.int 25)) (dCons (dC (.int 197)) dNil))) (dCons (dF gTup (dCons (dC (.int 25)) (dCons (dC (.int 198)) dNil))) (dCons (dF gTup (dCons (dC (.int 25)) (dCons (dC (.int 199)) dNil))) (dCons (dF gTup (dCons (dC (.int 25)) (dCons (dC (.int 200)) dNil))) dNil)))))))))))
noncomputable def f_law_moves_right : List D → M D := fDef 0 4 d_law_moves_right
theorem ok_law_moves_right (T : Bt mg) (F : Fn K mg "_law_moves_right" st_law_moves_right []) (c_law_counted : Cal P w K mg base 113 "_law_counted" ["_law_course"] f_law_counted) : Cal P w K mg base 114 "_law_moves_right" [] f_law_moves_right :=
  (F.cal (k := 113) (b := d_law_moves_right) sc_law_moves_right (fun f cdv A outer s H E hr hu =>
    (ss_cons (s_set (i := 0) sc_law_moves_right.nd rfl (Or.inr rfl) (e_tup (a_cons (e_tup (a_cons e_str a_nil)) (a_cons (e_tup (a_cons e_int (a_cons (e_op o_add (e_tup (a_cons e_int a_nil)) (e_op o_mul (e_tup (a_cons e_int (a_cons e_int a_nil))) e_int)) a_nil))) (a_cons (e_tup (a_cons e_int (a_cons (e_op o_add (e_tup (a_cons e_int a_nil)) (e_op o_mul (e_tup (a_cons e_int (a_cons e_int a_nil))) e_int)) a_nil))) (a_cons (e_tup (a_cons e_int (a_cons (e_tup (a_cons e_int (a_cons e_int (a_cons e_int a_nil)))) a_nil))) a_nil))))))
    (ss_cons (s_setLc (i := 1) [("_law_last", 2)] rfl sc_law_moves_right.nd rfl rfl (sw_true rfl rfl rfl (by decide +kernel)) (i_seq (e_tup (a_cons e_int (a_cons e_int a_nil)))) (blkOk_by (N := ["_law_ledger", "_law_told", "_law_last", "_law_many"]) (sc := defScope st_law_moves_right) (by decide +kernel)) (fun _ _ _ _ _ => (g_name (i := 2) sc_law_moves_right.nd rfl (by first | exact Or.inl rfl | exact Or.inr rfl))) (fun _ _ _ _ _ => ts_nil) (fun _ _ _ _ _ => (e_def c_law_counted (hr.mono (by decide)) (by rfl) (a_cons (e_tup (a_cons (e_var 0) (a_cons (e_op o_add (e_op o_add (e_op o_add (e_tup (a_cons e_int (a_cons e_int (a_cons e_int a_nil)))) (e_op o_mul (e_tup (a_cons e_int (a_cons e_int a_nil))) e_int)) (e_op o_mul (e_tup (a_cons e_int (a_cons e_int a_nil))) e_int)) (e_tup (a_cons e_int (a_cons (e_var 2) a_nil)))) a_nil))) a_nil))))
    (ss_cons (s_if (b_cmp (o_ne (Nat.lt_of_succ_lt hu)) (e_var 1) (e_lst (a_cons (e_tup (a_cons e_int (a_cons e_int a_nil))) (a_cons e_int a_nil))))
    (ss_one (s_ret e_bl))
    ss_nil)
    (ss_cons (s_setLc (i := 1) [("_law_many", 3)] rfl sc_law_moves_right.nd rfl rfl (sw_true rfl rfl rfl (by decide +kernel)) (i_range1 (by rfl) T.b_range (a_cons e_int a_nil)) (blkOk_by (N := ["_law_ledger", "_law_told", "_law_last", "_law_many"]) (sc := defScope st_law_moves_right) (by decide +kernel)) (fun _ _ _ _ _ => (g_name (i := 3) sc_law_moves_right.nd rfl (by first | exact Or.inl rfl | exact Or.inr rfl))) (fun _ _ _ _ _ => ts_nil) (fun _ _ _ _ _ => (e_def c_law_counted (hr.mono (by decide)) (by rfl) (a_cons (e_tup (a_cons (e_var 0) (a_cons (e_op o_add (e_op o_add (e_tup (a_cons e_int (a_cons e_int (a_cons e_int a_nil)))) (e_op o_mul (e_tup (a_cons e_int (a_cons e_int a_nil))) e_int)) (e_op o_mul (e_tup (a_cons e_int (a_cons e_int a_nil))) (e_var 3))) a_nil))) a_nil))))
    (ss_one (s_ret (e_cmp (o_eq (Nat.lt_of_succ_lt hu)) (e_var 1) (e_lst (a_cons (e_tup (a_cons e_int (a_cons e_int a_nil))) (a_cons (e_tup (a_cons e_int (a_cons e_int a_nil))) (a_cons (e_tup (a_cons e_int (a_cons e_int a_nil))) (a_cons (e_tup (a_cons e_int (a_cons e_int a_nil))) a_nil)))))))))))))).as rfl

abbrev st_law : Stmt := topS 27
theorem sc_law : FnScope ["_law_script", "_law_cells", "_law_many", "_law_twice", "_law_told", "_law_nine", "_law_cell", "_law_at"] ["_law_script"] (defScope st_law) := ⟨rfl, rfl, rfl, by decide +kernel, rfl, by decide +kernel, by decide +kernel⟩
noncomputable def d_law : SDen :=
    (sSeq (sSet 1 (d2 gAdd (dLc [6] (iSeq (dSl (dVar 0) oNo (oPart (dC (.int 1))))) (tName 6) bYes (dF gAbs (dCons (dF gInt (dCons (dVar 6) dNil)) dNil))) (dF gLst (dCons (dC (.int 4)) dNil))))
    (sSeq (sSet 2 (d2 gAdd (dC (.int 8)) (d2 gMod (dF gInt (dCons (d2 gIx (dVar 1) (dC (.int 0))) dNil)) (dC (.int 92)))))
    (sSeq (sSet 3 (d2 gAdd (dF gTup (dCons (dF gTup (dCons (dC (.str ("root" : String))) dNil)) dNil)) (dF gTuple (dCons (dLc [7] (iRange1 (dCons (dVar 2) dNil)) (tName 7) bYes (dF gTup (dCons (dC (.int 0)) (dCons (dF gTup (dCons (dVar 7) (dCons (dC (.int 0)) (dCons (dVar 7) dNil)))) dNil)))) dNil))))
    (sSeq (sSet 4 (dLc [7] (iSeq (dF gTup (dCons (dC (.int 1)) (dCons (dC (.int 4)) (dCons (dC (.int 7)) (dCons (dC (.int 8)) (dCons (dVar 2) dNil))))))) (tName 7) bYes (dF f_law_counted (dCons (dF gTup (dCons (dVar 3) (dCons (dF gTup (dCons (dVar 7) dNil)) dNil))) dNil))))
    (sSeq (sIf (bVal (d2 gNe (dVar 4) (dF gLst (dCons (dF gTup (dCons (dC (.int 2)) (dCons (dC (.int 1)) dNil))) (dCons (dF gTup (dCons (dC (.int 16)) (dCons (dC (.int 15)) dNil))) (dCons (dF gTup (dCons (dC (.int 128)) (dCons (dC (.int 127)) dNil))) (dCons (dC (.int 200)) (dCons (dC (.int 200)) dNil))))))))
    (sRet (dC (.bool false)))
    sSkip)
    (sSeq (sSet 5 (d2 gAdd (dF gTup (dCons (dF gTup (dCons (dC (.str ("root" : String))) dNil)) dNil)) (dF gTuple (dCons (dLc [7] (iRange1 (dCons (dC (.int 99)) dNil)) (tName 7) bYes (dF gTup (dCons (dC (.int 0)) (dCons (d2 gAdd (dF gTup (dCons (dVar 7) dNil)) (d2 gMul (dF gTup (dCons (dC (.int 0)) (dCons (dVar 7) dNil))) (dC (.int 8)))) dNil)))) dNil))))
    (sSeq (sIf (bVal (d2 gNe (dLc [7] (iSeq (dF gTup (dCons (dC (.int 1)) (dCons (dC (.int 99)) dNil)))) (tName 7) bYes (dF f_law_counted (dCons (dF gTup (dCons (dVar 5) (dCons (d2 gAdd (dF gTup (dCons (dVar 7) dNil)) (d2 gMul (dF gTup (dCons (dC (.int 1)) (dCons (dVar 7) dNil))) (dC (.int 8)))) dNil))) dNil))) (dF gLst (dCons (dF gTup (dCons (dC (.int 10)) (dCons (dC (.int 80)) dNil))) (dCons (dC (.int 200)) dNil)))))
    (sRet (dC (.bool false)))
    sSkip)
    (sRet (dAndV (dF f_law_things_right (dCons (d2 gMod (dF gInt (dCons (d2 gIx (dVar 1) (dC (.int 0))) dNil)) (dC (.int 90))) dNil)) (dF f_law_moves_right dNil))))))))))
noncomputable def f_law : List D → M D := fDef 1 8 d_law
theorem ok_law (T : Bt mg) (F : Fn K mg "law" st_law ["_law_script"]) (c_law_counted : Cal P w K mg base 113 "_law_counted" ["_law_course"] f_law_counted) (c_law_things_right : Cal P w K mg base 114 "_law_things_right" ["_law_more"] f_law_things_right) (c_law_moves_right : Cal P w K mg base 114 "_law_moves_right" [] f_law_moves_right) : Cal P w K mg base 115 "law" ["_law_script"] f_law :=
  (F.cal (k := 114) (b := d_law) sc_law (fun f cdv A outer s H E hr hu =>
    (ss_cons (s_set (i := 1) sc_law.nd rfl (Or.inl rfl) (e_op o_add (e_lc [("_law_cell", 6)] rfl sc_law.nd (i_seq (e_sl (e_var 0) po_no (po_part e_int))) (blkOk_by (N := ["_law_script", "_law_cells", "_law_many", "_law_twice", "_law_told", "_law_nine", "_law_cell", "_law_at"]) (sc := defScope st_law) (by decide +kernel)) (fun _ _ _ _ _ => (g_name (i := 6) sc_law.nd rfl (by first | exact Or.inl rfl | exact Or.inr rfl))) (fun _ _ _ _ _ => ts_nil) (fun _ _ _ _ _ => (e_callB c_abs (by rfl) T.b_abs (by decide +kernel) (a_cons (e_callTy c_int (by rfl) T.b_int (by decide +kernel) (a_cons (e_var 6) a_nil)) a_nil)))) (e_lst (a_cons e_int a_nil))))
    (ss_cons (s_set (i := 2) sc_law.nd rfl (Or.inl rfl) (e_op o_add e_int (e_op o_mod (e_callTy c_int (by rfl) T.b_int (by decide +kernel) (a_cons (e_ix x_ix (e_var 1) e_int) a_nil)) e_int)))
    (ss_cons (s_set (i := 3) sc_law.nd rfl (Or.inr rfl) (e_op o_add (e_tup (a_cons (e_tup (a_cons e_str a_nil)) a_nil)) (e_callTy c_tuple (by rfl) T.b_tuple (by decide +kernel) (a_cons (e_lc [("_law_at", 7)] rfl sc_law.nd (i_range1 (by rfl) T.b_range (a_cons (e_var 2) a_nil)) (blkOk_by (N := ["_law_script", "_law_cells", "_law_many", "_law_twice", "_law_told", "_law_nine", "_law_cell", "_law_at"]) (sc := defScope st_law) (by decide +kernel)) (fun _ _ _ _ _ => (g_name (i := 7) sc_law.nd rfl (by first | exact Or.inl rfl | exact Or.inr rfl))) (fun _ _ _ _ _ => ts_nil) (fun _ _ _ _ _ => (e_tup (a_cons e_int (a_cons (e_tup (a_cons (e_var 7) (a_cons e_int (a_cons (e_var 7) a_nil)))) a_nil))))) a_nil))))
    (ss_cons (s_setLc (i := 4) [("_law_at", 7)] rfl sc_law.nd rfl rfl (sw_true rfl rfl rfl (by decide +kernel)) (i_seq (e_tup (a_cons e_int (a_cons e_int (a_cons e_int (a_cons e_int (a_cons (e_var 2) a_nil))))))) (blkOk_by (N := ["_law_script", "_law_cells", "_law_many", "_law_twice", "_law_told", "_law_nine", "_law_cell", "_law_at"]) (sc := defScope st_law) (by decide +kernel)) (fun _ _ _ _ _ => (g_name (i := 7) sc_law.nd rfl (by first | exact Or.inl rfl | exact Or.inr rfl))) (fun _ _ _ _ _ => ts_nil) (fun _ _ _ _ _ => (e_def c_law_counted (hr.mono (by decide)) (by rfl) (a_cons (e_tup (a_cons (e_var 3) (a_cons (e_tup (a_cons (e_var 7) a_nil)) a_nil))) a_nil))))
    (ss_cons (s_if (b_cmp (o_ne (Nat.lt_of_succ_lt hu)) (e_var 4) (e_lst (a_cons (e_tup (a_cons e_int (a_cons e_int a_nil))) (a_cons (e_tup (a_cons e_int (a_cons e_int a_nil))) (a_cons (e_tup (a_cons e_int (a_cons e_int a_nil))) (a_cons e_int (a_cons e_int a_nil)))))))
    (ss_one (s_ret e_bl))
    ss_nil)
    (ss_cons (s_set (i := 5) sc_law.nd rfl (Or.inr rfl) (e_op o_add (e_tup (a_cons (e_tup (a_cons e_str a_nil)) a_nil)) (e_callTy c_tuple (by rfl) T.b_tuple (by decide +kernel) (a_cons (e_lc [("_law_at", 7)] rfl sc_law.nd (i_range1 (by rfl) T.b_range (a_cons e_int a_nil)) (blkOk_by (N := ["_law_script", "_law_cells", "_law_many", "_law_twice", "_law_told", "_law_nine", "_law_cell", "_law_at"]) (sc := defScope st_law) (by decide +kernel)) (fun _ _ _ _ _ => (g_name (i := 7) sc_law.nd rfl (by first | exact Or.inl rfl | exact Or.inr rfl))) (fun _ _ _ _ _ => ts_nil) (fun _ _ _ _ _ => (e_tup (a_cons e_int (a_cons (e_op o_add (e_tup (a_cons (e_var 7) a_nil)) (e_op o_mul (e_tup (a_cons e_int (a_cons (e_var 7) a_nil))) e_int)) a_nil))))) a_nil))))
    (ss_cons (s_if (b_cmp (o_ne (Nat.lt_of_succ_lt hu)) (e_lc [("_law_at", 7)] rfl sc_law.nd (i_seq (e_tup (a_cons e_int (a_cons e_int a_nil)))) (blkOk_by (N := ["_law_script", "_law_cells", "_law_many", "_law_twice", "_law_told", "_law_nine", "_law_cell", "_law_at"]) (sc := defScope st_law) (by decide +kernel)) (fun _ _ _ _ _ => (g_name (i := 7) sc_law.nd rfl (by first | exact Or.inl rfl | exact Or.inr rfl))) (fun _ _ _ _ _ => ts_nil) (fun _ _ _ _ _ => (e_def c_law_counted (hr.mono (by decide)) (by rfl) (a_cons (e_tup (a_cons (e_var 5) (a_cons (e_op o_add (e_tup (a_cons (e_var 7) a_nil)) (e_op o_mul (e_tup (a_cons e_int (a_cons (e_var 7) a_nil))) e_int)) a_nil))) a_nil)))) (e_lst (a_cons (e_tup (a_cons e_int (a_cons e_int a_nil))) (a_cons e_int a_nil))))
    (ss_one (s_ret e_bl))
    ss_nil)
    (ss_one (s_ret (e_and (e_def c_law_things_right (hr.mono (by decide)) (by rfl) (a_cons (e_op o_mod (e_callTy c_int (by rfl) T.b_int (by decide +kernel) (a_cons (e_ix x_ix (e_var 1) e_int) a_nil)) e_int) a_nil)) (e_one (e_def0 c_law_moves_right (hr.mono (by decide)) (by rfl))))))))))))))).as rfl
end
end Dn
end

section
set_option maxRecDepth 100000
set_option maxHeartbeats 4000000
namespace Dn
open PySem L2
abbrev Tl := List (Nat × Nat)
def ec0 : D := .tuple [.int 0]
def eCost (p : Nat × Nat) : D := .tuple [.int p.1, .int p.2]
def eT (p : Nat × Nat) : D := .tuple [.tuple [ec0, ec0], eCost p]
def eN (i : Nat) : D := .int i
def eChain (c : List Nat) : D := .tuple (c.map eN)
def costs (T : Tl) (c : List Nat) : Tl := (ev 0 c).map fun i => T.getD i (0, 0)
def mCost (T : Tl) (c : List Nat) : Nat × Nat := (((costs T c).map (·.1)).sum + c.length / 2, ((costs T c).map (·.2)).sum)
theorem gFdiv2 {a : Nat} {μ : Sto} : gFdiv (.int (a : Nat)) (.int 2) μ = some (.int ((a / 2 : Nat) : Int), μ) := by
  show (if (0 : Int) < 2 ∧ (2 : Int) < 1073741824 then some ((.int ((a : Int) / 2) : D), μ) else none) = _
  rw [if_pos ⟨by decide, by decide⟩]
  rfl
theorem chain_told_ok {μ : Sto} {td : D} (T : Tl) (c : List Nat) (h : pk td μ = .list (T.map eT)) (hc : c ≠ []) (hi : ∀ i ∈ c, i < T.length) (hl : c.length ≤ 1000) :
    f_chain_told [td, eChain c] μ = some (.tuple [.tuple [ec0, ec0], eCost (mCost T c)], μ) := by
  obtain ⟨a, ha⟩ : ∃ a, c[0]? = some a := by cases c with | nil => exact absurd rfl hc | cons a c => exact ⟨a, rfl⟩
  obtain ⟨b, hb⟩ : ∃ b, c[c.length - 1]? = some b := ⟨_, List.getElem?_eq_getElem (by cases c with | nil => exact absurd rfl hc | cons a c => simp)⟩
  have hT : ∀ i ∈ c, T[i]? = some (T.getD i (0, 0)) := fun i h => by simp [hi i h]
  have x1 : atI (c.map eN) 0 = some (.int (a : Nat)) := by rw [show (0 : Int) = ((0 : Nat) : Int) from rfl, atI_nat, List.getElem?_map, ha]; rfl
  have x2 : atI (c.map eN) (-1) = some (.int (b : Nat)) := by rw [atI_last, List.length_map, List.getElem?_map, hb]; rfl
  have x3 : ∀ i ∈ c, atI (T.map eT) (i : Int) = some (eT (T.getD i (0, 0))) := fun i e => by rw [atI_nat, List.getElem?_map, hT i e]; rfl
  have hlc : (costs T c).length ≤ 1000 := by
    unfold costs
    rw [List.length_map]
    exact Nat.le_trans ev_len hl
  refine fDef_rt rfl ?_
  refine seq_nx (set_ok (d := .tuple [ec0, ec0]) (μ1 := μ) ?_) ?_
  · refine F_ok (cons_ok (d := ec0) (μ1 := μ) ?_ (cons_ok (d := ec0) (μ1 := μ) ?_ nil_ok)) (tup_ok (by decide))
    · exact ix_ok (ix_ok (ix_ok rfl (ix_ok rfl rfl (.inr rfl) x1) (.inl h) (x3 a (List.mem_of_getElem? ha))) rfl (.inr rfl) at0) rfl (.inr rfl) at0
    · exact ix_ok (ix_ok (ix_ok rfl (ix_ok rfl rfl (.inr rfl) x2) (.inl h) (x3 b (List.mem_of_getElem? hb))) rfl (.inr rfl) at0) rfl (.inr rfl) at1
  refine seq_nx (set_ok (d := .list ((costs T c).map eCost)) (μ1 := μ) ?_) ?_
  · refine lc_ok (s := ⟨(ev 0 c).map eN, none⟩) (μ1 := μ) ?_ ?_
    · rw [← ev_map]
      exact iSeq_tup (dStep_ev0 rfl (by rw [List.length_map]; exact Nat.le_trans hl (by decide)))
    · unfold costs
      rw [List.map_map]
      refine lcLoop_map okB_none eN (eCost ∘ fun i => T.getD i (0, 0)) (ev 0 c) [] ?_ ?_
      · exact Nat.le_trans (by rw [List.length_nil, Nat.zero_add]; exact Nat.le_trans ev_len hl) (by decide : 1000 ≤ lim)
      · intro i hi2
        exact ⟨_, rfl, rfl, ix_ok (ix_ok rfl rfl (.inl h) (x3 i (ev_mem hi2))) rfl (.inr rfl) at1⟩
  refine seq_nx (set_ok (d := .int ((mCost T c).1 : Nat)) (μ1 := μ) ?_) (ret_ok ?_)
  · refine F_ok (cons_ok (d := .list ((costs T c).map fun p => .int (p.1 : Nat))) (μ1 := μ) (lc_ok (iSeq_list rfl) ?_) (cons_ok (d := .int ((c.length / 2 : Nat) : Int)) (μ1 := μ) ?_ nil_ok)) ?_
    · exact lcLoop_map okB_none eCost _ (costs T c) [] (by rw [List.length_nil]; exact Nat.le_trans (Nat.le_of_eq (Nat.zero_add _)) (Nat.le_trans hlc (by decide))) fun p _ => ⟨_, rfl, rfl, ix_ok rfl rfl (.inr rfl) at0⟩
    · refine d2_ok (F_ok (cons_ok rfl nil_ok) (q := some (.int (c.length : Nat), μ)) ?_) rfl gFdiv2
      show some ((.int ((c.map eN).length : Nat) : D), μ) = _
      rw [List.length_map]
    · show (intsOf ((costs T c).map fun p => (.int (p.1 : Nat) : D))).map _ = _
      rw [show ((costs T c).map fun p => (.int (p.1 : Nat) : D)) = ((costs T c).map fun p => ((p.1 : Nat) : Int)).map .int by rw [List.map_map]; rfl, intsOf_map]
      show some ((.int (((c.length / 2 : Nat) : Int) + ((costs T c).map fun p => ((p.1 : Nat) : Int)).sum) : D), μ) = _
      rw [show ((costs T c).map fun p => ((p.1 : Nat) : Int)) = ((costs T c).map (·.1)).map fun (i : Nat) => (i : Int) by rw [List.map_map]; rfl, sum_nat]
      unfold mCost
      simp only [Int.natCast_add, Int.add_comm]
  · refine F_ok (cons_ok rfl (cons_ok (F_ok (cons_ok rfl (cons_ok (d := .int ((mCost T c).2 : Nat)) (μ1 := μ) ?_ nil_ok)) (tup_ok (show 2 ≤ lim by decide))) nil_ok)) (tup_ok (show 2 ≤ lim by decide))
    refine F_ok (cons_ok (d := .list ((costs T c).map fun p => .int (p.2 : Nat))) (μ1 := μ) (lc_ok (iSeq_list rfl) ?_) nil_ok) ?_
    · exact lcLoop_map okB_none eCost _ (costs T c) [] (by rw [List.length_nil]; exact Nat.le_trans (Nat.le_of_eq (Nat.zero_add _)) (Nat.le_trans hlc (by decide))) fun p _ => ⟨_, rfl, rfl, ix_ok rfl rfl (.inr rfl) at1⟩
    · show (intsOf ((costs T c).map fun p => (.int (p.2 : Nat) : D))).map _ = _
      rw [show ((costs T c).map fun p => (.int (p.2 : Nat) : D)) = ((costs T c).map fun p => ((p.2 : Nat) : Int)).map .int by rw [List.map_map]; rfl, intsOf_map]
      show some ((.int ((costs T c).map fun p => ((p.2 : Nat) : Int)).sum : D), μ) = _
      rw [show ((costs T c).map fun p => ((p.2 : Nat) : Int)) = ((costs T c).map (·.2)).map fun (i : Nat) => (i : Int) by rw [List.map_map]; rfl, sum_nat]
      rfl
end Dn
end

section
set_option maxRecDepth 100000
set_option maxHeartbeats 4000000
namespace Dn
open PySem L2
abbrev Rw := Option (List Nat)
def eRow : Rw → D
  | none => .tuple [.str ("root" : String)]
  | some c => .tuple [.int 0, eChain c]
def house0 : D := .tuple [.tuple [.int 2], ec0, .tuple [.tuple []]]
theorem made_ok {μ : Sto} : f_made [house0, ec0, .int 0] μ = some (ec0, μ) := by
  refine fDef_rt rfl ?_
  refine seq_nx (σ1 := [some house0, some ec0, some (.int 0), none]) (μ1 := μ) (for_ok (s := ⟨[], none⟩) (μ1 := μ) (iSeq_tup ?_) rfl) (ret_ok rfl)
  exact ix_ok (ix_ok rfl rfl (.inr rfl) at2) rfl (.inr rfl) at0
theorem eq_0root {μ : Sto} : gEq (.int 0) (.str ("root" : String)) μ = some (.bool false, μ) := by
  unfold gEq
  exact if_pos (show SeqAt.shaped (.int 0) = true ∧ SeqAt.shaped (.str ("root" : String)) = true by decide +kernel)
theorem eq_rootroot {μ : Sto} : gEq (.str ("root" : String)) (.str ("root" : String)) μ = some (.bool true, μ) := by
  show (if SeqAt.shaped (.str ("root" : String)) = true ∧ SeqAt.shaped (.str ("root" : String)) = true then some ((.bool (PyData.eqv (.str ("root" : String)) (.str ("root" : String))) : D), μ) else none) = _
  rw [if_pos (show SeqAt.shaped (.str ("root" : String)) = true ∧ SeqAt.shaped (.str ("root" : String)) = true by decide +kernel)]
  have e : PyData.eqv (.str ("root" : String)) (.str ("root" : String)) = true := by decide +kernel
  rw [e]
def mRow (T : Tl) : Rw → Nat × Nat
  | none => (0, 0)
  | some c => ((mCost T c).1, (mCost T c).2 + 1)
def okChain (n : Nat) (c : List Nat) : Bool := !c.isEmpty && c.all (· < n) && decide (c.length ≤ 1000)
def okRow (n : Nat) : Rw → Bool
  | none => true
  | some c => okChain n c
theorem okChain_of {n : Nat} {c : List Nat} (h : okChain n c = true) : c ≠ [] ∧ (∀ i ∈ c, i < n) ∧ c.length ≤ 1000 := by
  unfold okChain at h
  rw [Bool.and_eq_true, Bool.and_eq_true] at h
  obtain ⟨⟨h1, h2⟩, h3⟩ := h
  refine ⟨fun e => ?_, fun i hi => of_decide_eq_true (List.all_eq_true.mp h2 i hi), of_decide_eq_true h3⟩
  rw [e] at h1
  cases h1
theorem row_told_ok {μ : Sto} {td : D} (T : Tl) (r : Rw) (h : pk td μ = .list (T.map eT)) (hr : okRow T.length r = true) : f_row_told [house0, td, eRow r] μ = some (eT (mRow T r), μ) := by
  refine fDef_rt rfl ?_
  cases r with
  | none =>
    refine seq_rt (if_t (μ1 := μ) (val_ok (d2_ok (ix_ok rfl rfl (.inr rfl) at0) rfl eq_rootroot)) (ret_ok ?_))
    refine F_ok (cons_ok (F_ok (cons_ok (ix_ok rfl rfl (.inr rfl) at1) (cons_ok (ix_ok rfl rfl (.inr rfl) at1) nil_ok)) (tup_ok (show 2 ≤ lim by decide))) (cons_ok (F_ok (cons_ok rfl (cons_ok rfl nil_ok)) (tup_ok (show 2 ≤ lim by decide))) nil_ok)) (tup_ok (show 2 ≤ lim by decide))
  | some c =>
    obtain ⟨h1, h2, h3⟩ := okChain_of hr
    refine seq_nx (if_f (μ1 := μ) (val_ok (d2_ok (ix_ok rfl rfl (.inr rfl) at0) rfl eq_0root)) rfl) ?_
    refine seq_nx (asg_ok (F_ok (cons_ok rfl (cons_ok (ix_ok rfl rfl (.inr rfl) at1) nil_ok)) (chain_told_ok T c h h1 h2 h3)) rfl) (ret_ok ?_)
    refine F_ok (cons_ok (F_ok (cons_ok (F_ok (cons_ok rfl (cons_ok rfl (cons_ok (ix_ok rfl rfl (.inr rfl) at0) nil_ok))) made_ok) (cons_ok (F_ok (cons_ok rfl (cons_ok rfl (cons_ok (ix_ok rfl rfl (.inr rfl) at0) nil_ok))) made_ok) nil_ok)) (tup_ok (show 2 ≤ lim by decide)))
      (cons_ok (F_ok (cons_ok rfl (cons_ok (d2_ok rfl rfl addI_ok) nil_ok)) (tup_ok (show 2 ≤ lim by decide))) nil_ok)) (tup_ok (show 2 ≤ lim by decide))
def okL (n : Nat) : List Rw → Bool
  | [] => true
  | r :: l => okRow n r && okL (n + 1) l
def stepT (s : Tl × Option D) (r : Rw) : Tl × Option D := (s.1 ++ [mRow s.1 r], some (eRow r))
def mRows (L : List Rw) : Tl := L.foldl (fun T r => T ++ [mRow T r]) []
theorem fold_fst : ∀ (l : List Rw) (s : Tl × Option D), (l.foldl stepT s).1 = l.foldl (fun T r => T ++ [mRow T r]) s.1
  | [], _ => rfl
  | r :: l, s => fold_fst l (stepT s r)
theorem eT_plain (p : Nat × Nat) : plain (eT p) = true := by
  unfold eT eCost ec0
  simp [plain, plains]
theorem rows_told_ok {μ : Sto} (L : List Rw) (hL : okL 0 L = true) (hl : L.length ≤ 1000) : f_rows_told [house0, .tuple (L.map eRow)] μ = some (.list ((mRows L).map eT), μ) := by
  have hn : ∀ (o : O), (μ ++ [o])[μ.length]? = some o := fun o => by rw [List.getElem?_append_right (Nat.le_refl _), Nat.sub_self]; rfl
  have hset : ∀ (o p : O), (μ ++ [o]).set μ.length p = μ ++ [p] := fun o p => by rw [List.set_append_right _ _ (Nat.le_refl _), Nat.sub_self]; rfl
  have key := sLoop_foldI (g := tName 3) (b := sDrop (dML gAppend (dVar 2) (dCons (dF f_row_told (dCons (dVar 0) (dCons (dVar 2) (dCons (dVar 3) dNil)))) dNil))) (s := ⟨L.map eRow, none⟩) eRow
    (fun s => [some house0, some (.tuple (L.map eRow)), some (rf μ.length), s.2]) (fun s => μ ++ [.lst (s.1.map eT)]) stepT (fun l s => okL s.1.length l = true ∧ s.1.length + l.length ≤ 1000) L ([], none) ⟨hL, by simpa using hl⟩ (fun _ => okB_none) ?_
  · obtain ⟨k1, k2⟩ := key
    have e : fDef 2 4 d_rows_told [house0, .tuple (L.map eRow)] μ = some (rf μ.length, μ ++ [.lst ((mRows L).map eT)]) := by
      refine fDef_rt rfl ?_
      refine seq_nx (set_ok (d := rf μ.length) (μ1 := μ ++ [.lst []]) rfl) ?_
      refine seq_nx (σ1 := [some house0, some (.tuple (L.map eRow)), some (rf μ.length), (L.foldl stepT ([], none)).2]) (for_ok (iSeq_tup rfl) ?_) (ret_ok rfl)
      rw [fold_fst] at k1
      exact k1
    exact pureD_lst e (Nat.le_refl _) (hn _) (plains_map eT_plain _)
  · rintro r l s ⟨p1, p2⟩
    have p1 : (okRow s.1.length r && okL (s.1.length + 1) l) = true := p1
    obtain ⟨q1, q2⟩ := Bool.and_eq_true_iff.mp p1
    have p2 : s.1.length + (l.length + 1) ≤ 1000 := p2
    refine ⟨⟨?_, ?_⟩, _, rfl, .inl (drop_ok (d := .none) ?_)⟩
    · show okL (s.1 ++ [mRow s.1 r]).length l = true
      rw [List.length_append]
      exact q2
    · show (s.1 ++ [mRow s.1 r]).length + l.length ≤ 1000
      rw [List.length_append]
      show s.1.length + 1 + l.length ≤ 1000
      omega
    · have hh : pk (rf μ.length) (μ ++ [.lst (s.1.map eT)]) = .list (s.1.map eT) := pk_rf (hn _)
      have q := append_ok (n := μ.length) (xs := s.1.map eT) (ys := s.1.map eT) (f := dVar 2) (r := dCons (dF f_row_told (dCons (dVar 0) (dCons (dVar 2) (dCons (dVar 3) dNil)))) dNil) (σ := [some house0, some (.tuple (L.map eRow)), some (rf μ.length), some (eRow r)]) (d := eT (mRow s.1 r)) (μ := μ ++ [.lst (s.1.map eT)]) rfl (hn _)
        (cons_ok (F_ok (cons_ok rfl (cons_ok rfl (cons_ok rfl nil_ok))) (row_told_ok s.1 r hh q1)) nil_ok) (hn _) (by rw [List.length_map]; exact Nat.lt_of_lt_of_le (by omega : s.1.length < 1000) (by decide))
      rw [hset] at q
      rw [show s.1.map eT ++ [eT (mRow s.1 r)] = (s.1 ++ [mRow s.1 r]).map eT by simp] at q
      exact q
theorem course_cost_ok {μ : Sto} {a b : D} (L : List Rw) (c : List Nat) (hL : okL 0 L = true) (hl : L.length ≤ 1000) (hc : okChain L.length c = true) :
    f_course_cost [house0, a, b, .tuple [.tuple (L.map eRow), eChain c]] μ = some (eCost (mCost (mRows L) c), μ) := by
  obtain ⟨h1, h2, h3⟩ := okChain_of hc
  have hlen : (mRows L).length = L.length := by
    have : ∀ (l : List Rw) (T : Tl), (l.foldl (fun T r => T ++ [mRow T r]) T).length = T.length + l.length := by
      intro l
      induction l with
      | nil => intro T; rfl
      | cons r l ih =>
        intro T
        rw [List.foldl_cons, ih, List.length_append, List.length_cons]
        show T.length + 1 + l.length = T.length + (l.length + 1)
        omega
    exact (this L []).trans (by simp)
  refine fDef_rt rfl (ret_ok ?_)
  refine ix_ok (F_ok (cons_ok (F_ok (cons_ok rfl (cons_ok (ix_ok rfl rfl (.inr rfl) at0) nil_ok)) (rows_told_ok L hL hl)) (cons_ok (ix_ok rfl rfl (.inr rfl) at1) nil_ok)) (chain_told_ok (mRows L) c rfl h1 (by rw [hlen]; exact h2) h3)) rfl (.inr rfl) at1
end Dn
end

section
set_option maxRecDepth 100000
set_option maxHeartbeats 4000000
namespace Dn
open PySem L2
abbrev Pr := Int × Int
def eP (p : Pr) : D := .tuple [.int p.1, .int p.2]
def fStep (g : Nat → Nat → Option (List Pr × Int × List Pr)) (thing first : Nat) (s : List Pr × List Pr) (i : Nat) : Option (List Pr × List Pr) :=
  (g i (first + s.1.length)).bind fun q => if s.1.length + q.1.length ≤ lim ∧ s.2.length + 1 ≤ lim ∧ s.2.length + 1 + q.2.2.length ≤ lim then some (s.1 ++ q.1, s.2 ++ [((thing : Int), q.2.1)] ++ q.2.2) else none
mutual
def gM (L : List Rw) : Nat → Nat → Nat → Option (List Pr × Int × List Pr)
  | 0, _, _ => none
  | n + 1, i, first => (L[i]?).bind fun r => match r with
    | none => some ([], -1, [])
    | some c => (c[0]?).bind fun i0 => (gM L n i0 first).bind fun q => (fM L n c (first + q.1.length) (first + q.1.length + 1)).bind fun p =>
      if q.1.length + 1 ≤ lim ∧ q.1.length + 1 + p.1.length ≤ lim ∧ q.2.2.length + p.2.length ≤ lim then some (q.1 ++ [(0, q.2.1)] ++ p.1, ((first + q.1.length : Nat) : Int), q.2.2 ++ p.2) else none
def fM (L : List Rw) : Nat → List Nat → Nat → Nat → Option (List Pr × List Pr)
  | 0, _, _, _ => none
  | n + 1, c, thing, first => if c.length ≤ lim then foldO (fStep (gM L n) thing first) (ev 2 c) ([], []) else none
end
def rG (r : List Pr × Int × List Pr) : D := .tuple [.list (r.1.map eP), .int r.2.1, .list (r.2.2.map eP)]
def rF (r : List Pr × List Pr) : D := .tuple [.list (r.1.map eP), .list (r.2.map eP)]
theorem bind_some' {α β : Type} {x : Option α} {f : α → Option β} {b : β} (h : x.bind f = some b) : ∃ a, x = some a ∧ f a = some b := bind_some h
theorem f_rec_succ (n : Nat) : f_rec (n + 1) = (fDef 3 10 (d_grown (f_rec n).1 (f_rec n).2), fDef 4 10 (d_followed (f_rec n).1 (f_rec n).2)) := rfl
theorem rec_ok (L : List Rw) : ∀ n, (∀ i first r μ, gM L n i first = some r → (f_rec n).1 [.tuple (L.map eRow), .int (i : Nat), .int (first : Nat)] μ = some (rG r, μ)) ∧
    (∀ c thing first r μ, fM L n c thing first = some r → (f_rec n).2 [.tuple (L.map eRow), eChain c, .int (thing : Nat), .int (first : Nat)] μ = some (rF r, μ))
  | 0 => ⟨fun i first r μ e => (by unfold gM at e; cases e), fun c thing first r μ e => (by unfold fM at e; cases e)⟩
  | n + 1 => by
    obtain ⟨ihg, ihf⟩ := rec_ok L n
    refine ⟨fun i first r μ e => ?_, fun c thing first r μ e => ?_⟩
    · unfold gM at e
      obtain ⟨rw_, e1, e⟩ := bind_some e
      have at1' : atI (L.map eRow) (i : Int) = some (eRow rw_) := by rw [atI_nat, List.getElem?_map, e1]; rfl
      rw [f_rec_succ]; dsimp only
      refine fDef_rt rfl ?_
      refine seq_nx (set_ok (ix_ok rfl rfl (.inr rfl) at1')) ?_
      cases rw_ with
      | none =>
        cases e
        refine seq_rt (if_t (μ1 := μ) (val_ok (d2_ok (ix_ok rfl rfl (.inr rfl) at0) rfl eq_rootroot)) (ret_ok ?_))
        exact F_ok (cons_ok (F_ok nil_ok (lst_ok (show 0 ≤ lim by decide))) (cons_ok rfl (cons_ok (F_ok nil_ok (lst_ok (show 0 ≤ lim by decide))) nil_ok))) (tup_ok (show 3 ≤ lim by decide))
      | some c =>
        dsimp only at e
        obtain ⟨i0, e2, e⟩ := bind_some e
        obtain ⟨q, e3, e⟩ := bind_some e
        obtain ⟨p, e4, e⟩ := bind_some e
        split at e
        · rename_i hl
          cases e
          obtain ⟨l1, l2, l3⟩ := hl
          have atc : atI (c.map eN) 0 = some (.int (i0 : Nat)) := by rw [show (0 : Int) = ((0 : Nat) : Int) from rfl, atI_nat, List.getElem?_map, e2]; rfl
          refine seq_nx (if_f (μ1 := μ) (val_ok (d2_ok (ix_ok rfl rfl (.inr rfl) at0) rfl eq_0root)) rfl) ?_
          refine seq_nx (asg_ok (F_ok (cons_ok rfl (cons_ok (ix_ok (ix_ok rfl rfl (.inr rfl) at1) rfl (.inr rfl) atc) (cons_ok rfl nil_ok))) (ihg i0 first q μ e3)) rfl) ?_
          refine seq_nx (set_ok (d := .int ((first + q.1.length : Nat) : Int)) (μ1 := μ) (d2_ok rfl (F_ok (cons_ok rfl nil_ok) (len_ok (.inl rfl))) ?_)) ?_
          · rw [addI_ok, List.length_map]
            rfl
          refine seq_nx (set_ok (d := .list ((q.1 ++ [(0, q.2.1)]).map eP)) (μ1 := μ) (d2_ok rfl (F_ok (cons_ok (F_ok (cons_ok (ix_ok rfl rfl (.inr rfl) at0) (cons_ok rfl nil_ok)) (tup_ok (show 2 ≤ lim by decide))) nil_ok) (lst_ok (show 1 ≤ lim by decide))) ?_)) ?_
          · rw [addL_ok (by rw [List.length_map]; exact l1), List.map_append]
            rfl
          refine seq_nx (asg_ok (d := rF p) (μ1 := μ) (F_ok (cons_ok rfl (cons_ok (ix_ok rfl rfl (.inr rfl) at1) (cons_ok rfl (cons_ok (d2_ok rfl rfl addI_ok) nil_ok)))) (ihf c (first + q.1.length) (first + q.1.length + 1) p μ e4)) rfl) (ret_ok ?_)
          refine F_ok (cons_ok (d := .list ((q.1 ++ [(0, q.2.1)] ++ p.1).map eP)) (μ1 := μ) (d2_ok rfl rfl ?_) (cons_ok rfl (cons_ok (d := .list ((q.2.2 ++ p.2).map eP)) (μ1 := μ) (d2_ok rfl rfl ?_) nil_ok))) (tup_ok (ds := [_, _, _]) (show 3 ≤ lim by decide))
          · rw [addL_ok (by rw [List.length_map, List.length_map, List.length_append]; exact l2), ← List.map_append]
          · rw [addL_ok (by rw [List.length_map, List.length_map]; exact l3), ← List.map_append]
        · cases e
    · unfold fM at e
      split at e
      · rename_i hc
        rw [f_rec_succ]; dsimp only
        refine fDef_rt rfl ?_
        refine seq_nx (par_ok (cons_ok (F_ok nil_ok (lst_ok (show 0 ≤ lim by decide))) (cons_ok (F_ok nil_ok (lst_ok (show 0 ≤ lim by decide))) nil_ok))) ?_
        have key := sLoop_rel (g := tName 6) (b := (sSeq (sAsg (tTupD 3 (tMore (tName 7) (tMore (tName 8) (tMore (tName 9) tNone)))) (dF (f_rec n).1 (dCons (dVar 0) (dCons (dVar 6) (dCons (d2 gAdd (dVar 3) (dF gLen (dCons (dVar 4) dNil))) dNil)))))
            (sSeq (sSet 4 (d2 gAdd (dVar 4) (dVar 7))) (sSet 5 (d2 gAdd (d2 gAdd (dVar 5) (dF gLst (dCons (dF gTup (dCons (dVar 2) (dCons (dVar 8) dNil))) dNil))) (dVar 9)))))) (s := ⟨(ev 2 c).map eN, none⟩) eN (fStep (gM L n) thing first)
          (fun s σ μ' => μ' = μ ∧ ∃ x1 x2 x3 x4, σ = [some (.tuple (L.map eRow)), some (eChain c), some (.int (thing : Nat)), some (.int (first : Nat)), some (.list (s.1.map eP)), some (.list (s.2.map eP)), x1, x2, x3, x4]) (fun _ _ _ _ => okB_none) ?_
          (ev 2 c) ([], []) r ([some (.tuple (L.map eRow)), some (eChain c), some (.int (thing : Nat)), some (.int (first : Nat)), some (.list []), some (.list []), none, none, none, none]) μ ⟨rfl, none, none, none, none, rfl⟩ e
        · obtain ⟨σ', μ', ⟨rfl, x1, x2, x3, x4, rfl⟩, hlp⟩ := key
          refine seq_nx (for_ok (s := ⟨(ev 2 c).map eN, none⟩) (μ1 := μ') ?_ hlp) (ret_ok ?_)
          · rw [← ev_map]
            exact iSeq_tup (dStep_ev2 rfl (by rw [List.length_map]; exact hc))
          · exact F_ok (cons_ok rfl (cons_ok rfl nil_ok)) (tup_ok (show 2 ≤ lim by decide))
        · rintro i s s' σ μ2 ⟨rfl, x1, x2, x3, x4, rfl⟩ es
          unfold fStep at es
          obtain ⟨q, e1, es⟩ := bind_some es
          split at es
          · rename_i hl
            obtain ⟨l1, l2, l3⟩ := hl
            cases es
            refine ⟨_, rfl, _, μ2, ⟨rfl, some (eN i), some (.list (q.1.map eP)), some (.int q.2.1), some (.list (q.2.2.map eP)), rfl⟩, .inl ?_⟩
            refine seq_nx (asg_ok (d := rG q) (μ1 := μ2) (F_ok (cons_ok rfl (cons_ok rfl (cons_ok (d := .int ((first + s.1.length : Nat) : Int)) (μ1 := μ2) (d2_ok rfl (F_ok (cons_ok rfl nil_ok) (len_ok (.inl rfl))) ?_) nil_ok))) (ihg i (first + s.1.length) q μ2 e1)) rfl) ?_
            · rw [addI_ok, List.length_map]
              rfl
            refine seq_nx (set_ok (d := .list ((s.1 ++ q.1).map eP)) (μ1 := μ2) (d2_ok rfl rfl ?_)) ?_
            · rw [addL_ok (by rw [List.length_map, List.length_map]; exact l1), ← List.map_append]
            refine set_ok (d := .list ((s.2 ++ [((thing : Int), q.2.1)] ++ q.2.2).map eP)) (μ1 := μ2) (d2_ok (d := .list ((s.2 ++ [((thing : Int), q.2.1)]).map eP)) (μ1 := μ2) (d2_ok rfl (F_ok (cons_ok (F_ok (cons_ok rfl (cons_ok rfl nil_ok)) (tup_ok (show 2 ≤ lim by decide))) nil_ok) (lst_ok (show 1 ≤ lim by decide))) ?_) rfl ?_)
            · rw [addL_ok (by rw [List.length_map]; exact l2), List.map_append]
              rfl
            · rw [addL_ok (by rw [List.length_map, List.length_map, List.length_append]; exact l3), ← List.map_append]
          · cases es
      · cases e
end Dn
end

section
set_option maxRecDepth 100000
set_option maxHeartbeats 4000000
namespace Dn
open PySem L2
/-! ### unfold -/
structure Un where
  tree : List Pr
  thing : Nat
  moves : List Pr
def uM (L : List Rw) (c : List Nat) : Option (Option Un) :=
  if 200 < (mCost (mRows L) c).1 ∨ 200 ≤ (mCost (mRows L) c).2 then some none else
    (c[0]?).bind fun c0 => (gM L 110 c0 0).bind fun q => (fM L 110 c q.1.length (q.1.length + 1)).bind fun p =>
      if q.1.length + 1 ≤ lim ∧ q.1.length + 1 + p.1.length ≤ lim ∧ q.2.2.length + p.2.length ≤ lim then some (some ⟨q.1 ++ [(1, q.2.1)] ++ p.1, q.1.length, q.2.2 ++ p.2⟩) else none
def course (L : List Rw) (c : List Nat) : D := .tuple [.tuple (L.map eRow), eChain c]
def eU : Option Un → D ⊕ D
  | none => .inr (.int 200)
  | some u => .inl (.tuple [.tuple (u.tree.map eP), .int u.thing, .tuple (u.moves.map eP)])
theorem tuple_ok {μ : Sto} {xs : List D} : gTuple [.list xs] μ = some (.tuple xs, μ) := rfl
theorem unfold_ok {μ : Sto} {b : D} (L : List Rw) (c : List Nat) (hL : okL 0 L = true) (hl : L.length ≤ 1000) (hc : okChain L.length c = true) (r : Option Un) (e : uM L c = some r) :
    f_unfold [house0, b, .int 1, course L c] μ = some (eU r, μ) := by
  unfold uM at e
  have hcost : ∀ σ : Env, σ = start0 14 [house0, b, .int 1, course L c] → sAsg (tTupD 2 (tMore (tName 4) (tMore (tName 5) tNone))) (dF f_course_cost (dCons (dVar 0) (dCons (dVar 1) (dCons (dVar 2) (dCons (dVar 3) dNil))))) σ μ =
      some (.nx ((σ.set 4 (some (.int (mCost (mRows L) c).1))).set 5 (some (.int (mCost (mRows L) c).2))), μ) := fun σ hσ => by
    subst hσ
    exact asg_ok (F_ok (cons_ok rfl (cons_ok rfl (cons_ok rfl (cons_ok rfl nil_ok)))) (course_cost_ok L c hL hl hc)) rfl
  have g1 : ∀ a : Nat, gGt (.int (a : Nat)) (.int 200) μ = some (.bool (decide (200 < a)), μ) := fun a => by
    show some ((.bool (decide ((200 : Int) < a)) : D), μ) = _
    congr 3
    exact decide_eq_decide.mpr (by omega)
  have g2 : ∀ a : Nat, gGe (.int (a : Nat)) (.int 200) μ = some (.bool (decide (200 ≤ a)), μ) := fun a => by
    show some ((.bool (decide ((200 : Int) ≤ a)) : D), μ) = _
    congr 3
    exact decide_eq_decide.mpr (by omega)
  split at e
  · rename_i hbig
    cases e
    refine fDefX_rs rfl (xseq_nx (lift_ok (hcost _ rfl)) (xseq_rs (xif_t (μ1 := μ) ?_ rfl)))
    by_cases h1 : 200 < (mCost (mRows L) c).1
    · exact or_t (val_ok (d2_ok rfl rfl ((g1 _).trans (by rw [decide_eq_true h1]))))
    · exact or_f (val_ok (d2_ok rfl rfl ((g1 _).trans (by rw [decide_eq_false h1])))) (val_ok (d2_ok rfl rfl ((g2 _).trans (by rw [decide_eq_true (hbig.resolve_left h1)]))))
  · rename_i hbig
    obtain ⟨c0, e1, e⟩ := bind_some e
    obtain ⟨q, e2, e⟩ := bind_some e
    obtain ⟨p, e3, e⟩ := bind_some e
    split at e
    · rename_i hlen
      obtain ⟨l1, l2, l3⟩ := hlen
      cases e
      have h1 : ¬ 200 < (mCost (mRows L) c).1 := fun z => hbig (.inl z)
      have h2 : ¬ 200 ≤ (mCost (mRows L) c).2 := fun z => hbig (.inr z)
      have atc : atI (c.map eN) 0 = some (.int (c0 : Nat)) := by rw [show (0 : Int) = ((0 : Nat) : Int) from rfl, atI_nat, List.getElem?_map, e1]; rfl
      obtain ⟨hg, hf⟩ := rec_ok L 110
      rw [show (f_rec 110).1 = f_grown by unfold f_grown; rfl] at hg
      rw [show (f_rec 110).2 = f_followed by unfold f_followed; rfl] at hf
      refine fDefX_rt rfl (xseq_nx (lift_ok (hcost _ rfl)) (xseq_nx (xif_f (μ1 := μ) (or_f (val_ok (d2_ok rfl rfl ((g1 _).trans (by rw [decide_eq_false h1])))) (val_ok (d2_ok rfl rfl ((g2 _).trans (by rw [decide_eq_false h2]))))) rfl) (lift_ok ?_)))
      refine seq_nx (asg_ok rfl rfl) ?_
      refine seq_nx (asg_ok (F_ok (cons_ok rfl (cons_ok (ix_ok rfl rfl (.inr rfl) atc) (cons_ok rfl nil_ok))) (hg c0 0 q μ e2)) rfl) ?_
      refine seq_nx (set_ok (d := .int (q.1.length : Nat)) (μ1 := μ) (F_ok (cons_ok rfl nil_ok) ((len_ok (.inl rfl)).trans (by rw [List.length_map])))) ?_
      refine seq_nx (asg_ok (d := rF p) (μ1 := μ) (F_ok (cons_ok rfl (cons_ok rfl (cons_ok rfl (cons_ok (d2_ok rfl rfl addI_ok) nil_ok)))) (hf c q.1.length (q.1.length + 1) p μ e3)) rfl) (ret_ok ?_)
      refine F_ok (cons_ok (d := .tuple ((q.1 ++ [(1, q.2.1)] ++ p.1).map eP)) (μ1 := μ) (F_ok (cons_ok (d := .list ((q.1 ++ [(1, q.2.1)] ++ p.1).map eP)) (μ1 := μ) (d2_ok (d := .list ((q.1 ++ [(1, q.2.1)]).map eP)) (μ1 := μ) (d2_ok rfl (F_ok (cons_ok (F_ok (cons_ok rfl (cons_ok rfl nil_ok)) (tup_ok (show 2 ≤ lim by decide))) nil_ok) (lst_ok (show 1 ≤ lim by decide))) ?_) rfl ?_) nil_ok) tuple_ok)
        (cons_ok rfl (cons_ok (d := .tuple ((q.2.2 ++ p.2).map eP)) (μ1 := μ) (F_ok (cons_ok (d := .list ((q.2.2 ++ p.2).map eP)) (μ1 := μ) (d2_ok rfl rfl ?_) nil_ok) tuple_ok) nil_ok))) (tup_ok (ds := [_, _, _]) (show 3 ≤ lim by decide))
      · rw [addL_ok (by rw [List.length_map]; exact l1), List.map_append]
        rfl
      · rw [addL_ok (by rw [List.length_map, List.length_map, List.length_append]; exact l2), ← List.map_append]
      · rw [addL_ok (by rw [List.length_map, List.length_map]; exact l3), ← List.map_append]
    · cases e
/-! ### the law's own replay -/
def pathM (tree : List Pr) : Nat → List Int → Option (List Int)
  | 0, _ => none
  | n + 1, xs => match xs with
    | [] => none
    | h :: t => (atI tree h).bind fun p => if 0 ≤ p.2 then (if (h :: t).length < lim then pathM tree n (p.2 :: h :: t) else none) else some (h :: t)
theorem path_ok {μ : Sto} (tree : List Pr) (thing : Int) (r : List Int) (e : pathM tree 300 [thing] = some r) : f_law_path [.tuple (tree.map eP), .int thing] μ = some (.list (r.map .int), μ) := by
  have hn : ∀ (o : O), (μ ++ [o])[μ.length]? = some o := fun o => by rw [List.getElem?_append_right (Nat.le_refl _), Nat.sub_self]; rfl
  have hset : ∀ (o p : O), (μ ++ [o]).set μ.length p = μ ++ [p] := fun o p => by rw [List.set_append_right _ _ (Nat.le_refl _), Nat.sub_self]; rfl
  let σ : Env := [some (.tuple (tree.map eP)), some (.int thing), some (rf μ.length)]
  have key : ∀ (n : Nat) (xs r : List Int), pathM tree n xs = some r → wN (bVal (d2 gGe (d2 gIx (d2 gIx (dVar 0) (d2 gIx (dVar 2) (dC (.int 0)))) (dC (.int 1))) (dC (.int 0))))
      (sDrop (dML gInsert (dVar 2) (dCons (dC (.int 0)) (dCons (d2 gIx (d2 gIx (dVar 0) (d2 gIx (dVar 2) (dC (.int 0)))) (dC (.int 1))) dNil)))) n σ (μ ++ [.lst (xs.map .int)]) = some (.nx σ, μ ++ [.lst (r.map .int)]) := by
    intro n
    induction n with
    | zero => intro xs r e; unfold pathM at e; cases e
    | succ n ih =>
      intro xs r e
      unfold pathM at e
      split at e
      · cases e
      · rename_i h t
        obtain ⟨p, e1, e⟩ := bind_some e
        have hh : pk (rf μ.length) (μ ++ [.lst ((h :: t).map .int)]) = .list ((h :: t).map .int) := pk_rf (hn _)
        have hp : d2 gIx (d2 gIx (dVar 0) (d2 gIx (dVar 2) (dC (.int 0)))) (dC (.int 1)) σ (μ ++ [.lst ((h :: t).map .int)]) = some (.int p.2, μ ++ [.lst ((h :: t).map .int)]) :=
          ix_ok (ix_ok rfl (ix_ok rfl rfl (.inl hh) at0) (.inr rfl) (by rw [atI_map, e1]; rfl)) rfl (.inr rfl) at1
        have hc : bVal (d2 gGe (d2 gIx (d2 gIx (dVar 0) (d2 gIx (dVar 2) (dC (.int 0)))) (dC (.int 1))) (dC (.int 0))) σ (μ ++ [.lst ((h :: t).map .int)]) = some (decide (0 ≤ p.2), μ ++ [.lst ((h :: t).map .int)]) :=
          val_ok (d2_ok hp rfl rfl)
        unfold wN
        rw [hc, Option.bind_some]
        dsimp only
        split at e
        · rename_i h0
          split at e
          · rename_i hl
            rw [decide_eq_true h0, if_pos rfl]
            have q := insert_ok (n := μ.length) (i := 0) (d := .int p.2) (xs := (h :: t).map .int) (ys := (h :: t).map .int) (f := dVar 2) (σ := σ) (μ := μ ++ [.lst ((h :: t).map .int)]) (r := dCons (dC (.int 0)) (dCons (d2 gIx (d2 gIx (dVar 0) (d2 gIx (dVar 2) (dC (.int 0)))) (dC (.int 1))) dNil)) rfl (hn _) (cons_ok rfl (cons_ok hp nil_ok)) (hn _) (by rw [List.length_map]; exact hl) (by decide) (by decide)
            rw [hset] at q
            rw [drop_ok q, Option.bind_some]
            exact ih (p.2 :: h :: t) r e
          · cases e
        · rename_i h0
          cases e
          rw [decide_eq_false h0, if_neg Bool.false_ne_true]
  have e2 : fDef 2 3 d_law_path [.tuple (tree.map eP), .int thing] μ = some (rf μ.length, μ ++ [.lst (r.map .int)]) := by
    refine fDef_rt rfl ?_
    refine seq_nx (set_ok (d := rf μ.length) (μ1 := μ ++ [.lst [.int thing]]) rfl) ?_
    exact seq_nx (sWhile_of (n := 300) (by decide) (key 300 [thing] r e)) (ret_ok rfl)
  exact pureD_lst e2 (Nat.le_refl _) (hn _) (plains_map (fun i => by unfold plain; rfl) r)
theorem lmade_ok {μ : Sto} : f_law_made [house0, ec0, .int 0] μ = some (ec0, μ) := by
  have hn : ∀ (o : O), (μ ++ [o])[μ.length]? = some o := fun o => by rw [List.getElem?_append_right (Nat.le_refl _), Nat.sub_self]; rfl
  have e2 : fDef 3 5 d_law_made [house0, ec0, .int 0] μ = some (ec0, μ ++ [.lst [.int 0]]) := by
    refine fDef_rt rfl ?_
    refine seq_nx (set_ok (d := rf μ.length) (μ1 := μ ++ [.lst [.int 0]]) (F_ok (cons_ok rfl nil_ok) rfl)) ?_
    refine seq_nx (σ1 := [some house0, some ec0, some (.int 0), some (rf μ.length), none]) (for_ok (s := ⟨[], none⟩) (μ1 := μ ++ [.lst [.int 0]]) (iSeq_tup ?_) rfl) (ret_ok ?_)
    · exact ix_ok (ix_ok rfl rfl (.inr rfl) at2) rfl (.inr rfl) at0
    · refine F_ok (cons_ok rfl nil_ok) ?_
      show (seqOf (pk (rf μ.length) (μ ++ [.lst [.int 0]]))).map _ = _
      rw [pk_rf (hn _)]
      rfl
  exact pureD_plain e2 (by unfold ec0; simp [plain, plains])
def zeros (tree : List Pr) (p : List Int) : Bool := p.all fun f => match atI tree f with
  | some q => q.1 == 0
  | none => false
def contM (tree : List Pr) (thing : Int) : Bool := match pathM tree 300 [thing] with
  | some p => zeros tree p.dropLast
  | none => false
theorem content_ok {μ : Sto} (tree : List Pr) (thing : Int) (e : contM tree thing = true) : f_law_content [house0, .tuple (tree.map eP), .int thing] μ = some (ec0, μ) := by
  unfold contM at e
  split at e
  · rename_i p hp
    have key := sLoop_foldI (g := tName 4) (b := sSet 3 (dF f_law_made (dCons (dVar 0) (dCons (dVar 3) (dCons (d2 gIx (d2 gIx (dVar 1) (dVar 4)) (dC (.int 0))) dNil))))) (s := ⟨(p.dropLast).map .int, none⟩) (PyData.int)
      (fun (x : Option D) => [some house0, some (.tuple (tree.map eP)), some (.int thing), some ec0, x]) (fun _ => μ) (fun _ f => some (.int f)) (fun l _ => zeros tree l = true) p.dropLast none e (fun _ => okB_none) ?_
    · refine fDef_rt rfl ?_
      refine seq_nx (set_ok (ix_ok rfl rfl (.inr rfl) at1)) ?_
      refine seq_nx (for_ok (s := ⟨(p.dropLast).map .int, none⟩) (μ1 := μ) ?_ key.1) (ret_ok rfl)
      have q := iSeq_list (sl_last (f := dF f_law_path (dCons (dVar 1) (dCons (dVar 2) dNil))) (σ := start0 5 [house0, .tuple (tree.map eP), .int thing] |>.set 3 (some ec0)) (F_ok (cons_ok rfl (cons_ok rfl nil_ok)) (path_ok (μ := μ) tree thing p hp)))
      rw [← List.map_dropLast] at q
      exact q
    · intro f l x hz
      unfold zeros at hz
      rw [List.all_cons, Bool.and_eq_true] at hz
      obtain ⟨z1, z2⟩ := hz
      refine ⟨z2, _, rfl, .inl (set_ok ?_)⟩
      split at z1
      · rename_i q hq
        have h0 : q.1 = 0 := beq_iff_eq.mp z1
        refine F_ok (cons_ok rfl (cons_ok rfl (cons_ok (d := .int 0) (μ1 := μ) (ix_ok (d := eP q) (ix_ok rfl rfl (.inr rfl) (by rw [atI_map, hq]; rfl)) rfl (.inr rfl) ?_) nil_ok))) lmade_ok
        exact (show atI [(.int q.1 : D), .int q.2] 0 = some (.int 0) by rw [h0]; exact at0)
      · cases z1
  · cases e
def placeM (tree : List Pr) (t : Int) : Bool := decide (t < 0) || (contM tree t && zeros tree [t])
theorem place_ok {μ : Sto} (tree : List Pr) (t : Int) (e : placeM tree t = true) : f_law_place [house0, .tuple (tree.map eP), .int t] μ = some (ec0, μ) := by
  unfold placeM at e
  refine fDef_rt rfl ?_
  by_cases h : t < 0
  · exact seq_rt (if_t (μ1 := μ) (val_ok (d2_ok rfl rfl (by show some ((.bool (decide (t < 0)) : D), μ) = _; rw [decide_eq_true h]))) (ret_ok (ix_ok rfl rfl (.inr rfl) at1)))
  · rw [decide_eq_false h, Bool.false_or, Bool.and_eq_true] at e
    obtain ⟨e1, e2⟩ := e
    refine seq_nx (if_f (μ1 := μ) (val_ok (d2_ok rfl rfl (by show some ((.bool (decide (t < 0)) : D), μ) = _; rw [decide_eq_false h]))) rfl) ?_
    refine seq_nx (set_ok (F_ok (cons_ok rfl (cons_ok rfl (cons_ok rfl nil_ok))) (content_ok tree t e1))) (ret_ok ?_)
    unfold zeros at e2
    rw [List.all_cons, Bool.and_eq_true] at e2
    obtain ⟨z1, _⟩ := e2
    split at z1
    · rename_i q hq
      have h0 : q.1 = 0 := beq_iff_eq.mp z1
      refine F_ok (cons_ok rfl (cons_ok rfl (cons_ok (d := .int 0) (μ1 := μ) (ix_ok (d := eP q) (ix_ok rfl rfl (.inr rfl) (by rw [atI_map, hq]; rfl)) rfl (.inr rfl) ?_) nil_ok))) lmade_ok
      exact (show atI [(.int q.1 : D), .int q.2] 0 = some (.int 0) by rw [h0]; exact at0)
    · cases z1
end Dn
end

section
set_option maxRecDepth 100000
set_option maxHeartbeats 4000000
namespace Dn
open PySem L2
theorem eqI {μ : Sto} {i j : Int} : gEq (.int i) (.int j) μ = some (.bool (i == j), μ) := by
  unfold gEq
  exact if_pos (show SeqAt.shaped (.int i) = true ∧ SeqAt.shaped (.int j) = true from ⟨rfl, rfl⟩)
theorem canInts : ∀ l : List Int, PyData.canLayAll0 (l.map .int) = true
  | [] => rfl
  | a :: l => by
    show (PyData.canLay0 (.int a) && PyData.canLayAll0 (l.map .int)) = true
    rw [canInts l]
    rfl
theorem anyInts (i : Int) : ∀ l : List Int, ((l.map PyData.int).any fun z => PyData.eqv z (.int i)) = l.any (· == i)
  | [] => rfl
  | a :: l => by
    rw [List.map_cons, List.any_cons, List.any_cons, anyInts i l]
    rfl
theorem in_ok {μ : Sto} {i : Int} {l : List Int} : gIn (.int i) (.list (l.map .int)) μ = some (.bool (l.any (· == i)), μ) := by
  unfold gIn
  show (if SeqAt.shaped (.int i) = true ∧ PyData.canLayAll0 (l.map .int) = true then some ((.bool ((l.map PyData.int).any fun z => PyData.eqv z (.int i)) : D), μ) else none) = _
  rw [if_pos ⟨rfl, canInts l⟩, anyInts]
def rules0 : D := .tuple [.tuple [.int 0, .tuple [ec0], .tuple [ec0]], .tuple [.int 1, .tuple [ec0], .tuple [ec0]]]
/-- the move is let -/
def letM (tree : List Pr) (thing target : Int) : Bool :=
  (decide (target < 0) || ((match atI tree target with | some q => !(q.1 == 1) | none => false) && (match pathM tree 300 [target] with | some p => !(p.any (· == thing)) | none => false))) &&
    contM tree thing && placeM tree target && (match atI tree thing with | some q => q.1 == 0 || q.1 == 1 | none => false)
theorem in_c0 {μ : Sto} : gIn ec0 (.tuple [ec0]) μ = some (.bool true, μ) := by
  unfold gIn
  have h : SeqAt.shaped ec0 = true ∧ PyData.canLayAll0 [ec0] = true := by decide +kernel
  have h2 : ([ec0].any fun z => PyData.eqv z ec0) = true := by decide +kernel
  show (if SeqAt.shaped ec0 = true ∧ PyData.canLayAll0 [ec0] = true then some ((.bool ([ec0].any fun z => PyData.eqv z ec0) : D), μ) else none) = _
  rw [if_pos h, h2]
theorem letting_ok {μ : Sto} (tree : List Pr) (thing target : Int) (e : letM tree thing target = true) : ∃ i : Int, f_law_letting [house0, rules0, .tuple (tree.map eP), .int thing, .int target] μ = some (.int i, μ) := by
  unfold letM at e
  rw [Bool.and_eq_true, Bool.and_eq_true, Bool.and_eq_true] at e
  obtain ⟨⟨⟨e1, e2⟩, e3⟩, e4⟩ := e
  have hge : ∀ σ : Env, σ[4]? = some (some (.int target)) → bVal (d2 gGe (dVar 4) (dC (.int 0))) σ μ = some (decide (0 ≤ target), μ) := fun σ hσ => val_ok (d2_ok (d := .int target) (μ1 := μ) (by unfold dVar; rw [hσ]) rfl rfl)
  have hthing : ∃ q, atI tree thing = some q ∧ (q.1 = 0 ∨ q.1 = 1) := by
    split at e4
    · rename_i q hq
      rw [Bool.or_eq_true] at e4
      exact ⟨q, hq, e4.imp beq_iff_eq.mp beq_iff_eq.mp⟩
    · cases e4
  obtain ⟨q, hq, hq1⟩ := hthing
  let σ0 : Env := start0 11 [house0, rules0, .tuple (tree.map eP), .int thing, .int target]
  have hrest : ∃ i : Int, (sSeq (sSet 5 (dF f_law_content (dCons (dVar 0) (dCons (dVar 2) (dCons (dVar 3) dNil)))))
    (sSeq (sSet 6 (dF f_law_place (dCons (dVar 0) (dCons (dVar 2) (dCons (dVar 4) dNil)))))
    (sSeq (sFor (iEnumD (dVar 1)) (tTupD 2 (tMore (tName 7) (tMore (tTupD 3 (tMore (tName 8) (tMore (tName 9) (tMore (tName 10) tNone)))) tNone)))
    (sIf (bAnd (bVal (d2 gEq (dVar 8) (d2 gIx (d2 gIx (dVar 2) (dVar 3)) (dC (.int 0))))) (bAnd (bVal (d2 gIn (dVar 5) (dVar 9))) (bVal (d2 gIn (dVar 6) (dVar 10)))))
    (sRet (dVar 7))
    sSkip))
    (sRet (dC .none))))) σ0 μ = some (.rt (.int i), μ) := by
    have hk : ∀ σ : Env, σ[2]? = some (some (.tuple (tree.map eP))) → σ[3]? = some (some (.int thing)) → d2 gIx (d2 gIx (dVar 2) (dVar 3)) (dC (.int 0)) σ μ = some (.int q.1, μ) := fun σ h2 h3 =>
      ix_ok (d := eP q) (ix_ok (d := .tuple (tree.map eP)) (i := thing) (μ1 := μ) (by unfold dVar; rw [h2]) (by unfold dVar; rw [h3]) (.inr rfl) (by rw [atI_map, hq]; rfl)) rfl (.inr rfl) at0
    rcases hq1 with h0 | h0
    · refine ⟨0, ?_⟩
      refine seq_nx (set_ok (F_ok (cons_ok rfl (cons_ok rfl (cons_ok rfl nil_ok))) (content_ok tree thing e2))) ?_
      refine seq_nx (set_ok (F_ok (cons_ok rfl (cons_ok rfl (cons_ok rfl nil_ok))) (place_ok tree target e3))) ?_
      refine seq_rt (for_ok (s := ⟨[.tuple [.int 0, .tuple [.int 0, .tuple [ec0], .tuple [ec0]]], .tuple [.int 1, .tuple [.int 1, .tuple [ec0], .tuple [ec0]]]], none⟩) (μ1 := μ) rfl ?_)
      unfold sLoop
      rw [if_pos okB_none]
      refine (congrArg (Option.bind · _) (show tTupD 2 _ _ _ = some _ from rfl)).trans ?_
      rw [Option.bind_some]
      have hc := hk ([some house0, some rules0, some (.tuple (tree.map eP)), some (.int thing), some (.int target), some ec0, some ec0, some (.int 0), some (.int 0), some (.tuple [ec0]), some (.tuple [ec0])]) rfl rfl
      refine (congrArg (Option.bind · _) (if_t (μ1 := μ) (and_t (val_ok (d2_ok rfl hc (eqI.trans (by rw [h0]; rfl)))) (and_t (val_ok (d2_ok rfl rfl in_c0)) (val_ok (d2_ok rfl rfl in_c0)))) (ret_ok rfl))).trans ?_
      rfl
    · refine ⟨1, ?_⟩
      refine seq_nx (set_ok (F_ok (cons_ok rfl (cons_ok rfl (cons_ok rfl nil_ok))) (content_ok tree thing e2))) ?_
      refine seq_nx (set_ok (F_ok (cons_ok rfl (cons_ok rfl (cons_ok rfl nil_ok))) (place_ok tree target e3))) ?_
      refine seq_rt (for_ok (s := ⟨[.tuple [.int 0, .tuple [.int 0, .tuple [ec0], .tuple [ec0]]], .tuple [.int 1, .tuple [.int 1, .tuple [ec0], .tuple [ec0]]]], none⟩) (μ1 := μ) rfl ?_)
      unfold sLoop
      rw [if_pos okB_none]
      refine (congrArg (Option.bind · _) (show tTupD 2 _ _ _ = some _ from rfl)).trans ?_
      rw [Option.bind_some]
      have hc := hk ([some house0, some rules0, some (.tuple (tree.map eP)), some (.int thing), some (.int target), some ec0, some ec0, some (.int 0), some (.int 0), some (.tuple [ec0]), some (.tuple [ec0])]) rfl rfl
      refine (congrArg (Option.bind · _) (if_f (μ1 := μ) (and_f (val_ok (d2_ok rfl hc (eqI.trans (by rw [h0]; rfl))))) (r := some (.nx _, μ)) rfl)).trans ?_
      rw [Option.bind_some]
      dsimp only
      unfold sLoop
      rw [if_pos okB_none]
      refine (congrArg (Option.bind · _) (show tTupD 2 _ _ _ = some _ from rfl)).trans ?_
      rw [Option.bind_some]
      have hc2 := hk ([some house0, some rules0, some (.tuple (tree.map eP)), some (.int thing), some (.int target), some ec0, some ec0, some (.int 1), some (.int 1), some (.tuple [ec0]), some (.tuple [ec0])]) rfl rfl
      refine (congrArg (Option.bind · _) (if_t (μ1 := μ) (and_t (val_ok (d2_ok rfl hc2 (eqI.trans (by rw [h0]; rfl)))) (and_t (val_ok (d2_ok rfl rfl in_c0)) (val_ok (d2_ok rfl rfl in_c0)))) (ret_ok rfl))).trans ?_
      rfl
  obtain ⟨i, hi⟩ := hrest
  refine ⟨i, fDef_rt rfl ?_⟩
  by_cases ht : target < 0
  · have h0 : decide (0 ≤ target) = false := decide_eq_false (by omega)
    exact seq_nx (if_f (μ1 := μ) (and_f (by rw [hge _ rfl, h0])) rfl) (seq_nx (if_f (μ1 := μ) (and_f (by rw [hge _ rfl, h0])) rfl) hi)
  · have h0 : decide (0 ≤ target) = true := decide_eq_true (by omega)
    rw [decide_eq_false ht, Bool.false_or, Bool.and_eq_true] at e1
    obtain ⟨e5, e6⟩ := e1
    split at e5
    · rename_i u hu
      split at e6
      · rename_i p hp
        have e5 : (u.1 == 1) = false := by simpa using e5
        have e6 : (p.any (· == thing)) = false := by simpa using e6
        refine seq_nx (if_f (μ1 := μ) (and_t (by rw [hge _ rfl, h0]) (val_ok (d2_ok (d := .int u.1) (d3 := .int 1) (μ1 := μ) (μ2 := μ) ?_ ?_ (eqI.trans (by rw [e5]))))) rfl) (seq_nx (if_f (μ1 := μ) (and_t (by rw [hge _ rfl, h0]) (val_ok (d2_ok rfl (F_ok (cons_ok rfl (cons_ok rfl nil_ok)) (path_ok tree target p hp)) (in_ok.trans (by rw [e6]))))) rfl) hi)
        · exact ix_ok (d := eP u) (ix_ok rfl rfl (.inr rfl) (by rw [atI_map, hu]; rfl)) rfl (.inr rfl) at0
        · exact F_ok (cons_ok (ix_ok rfl rfl (.inr rfl) at2) nil_ok) rfl
      · cases e6
    · cases e5
def movedM (tree : List Pr) (thing : Nat) (target : Int) : Option (List Pr) := (tree[thing]?).bind fun q => if tree.length + 1 ≤ lim then some (tree.take thing ++ [(q.1, target)] ++ tree.drop (thing + 1)) else none
theorem moved_ok {μ : Sto} (tree : List Pr) (thing : Nat) (target : Int) (r : List Pr) (e : movedM tree thing target = some r) : f_law_moved [.tuple (tree.map eP), .int (thing : Nat), .int target] μ = some (.tuple (r.map eP), μ) := by
  unfold movedM at e
  obtain ⟨q, e1, e⟩ := bind_some e
  split at e
  · rename_i hl
    cases e
    have h1 : atI (tree.map eP) (thing : Int) = some (eP q) := by rw [atI_nat, List.getElem?_map, e1]; rfl
    refine fDef_rt rfl (ret_ok ?_)
    refine d2_ok (d := .tuple ((tree.take thing ++ [(q.1, target)]).map eP)) (μ1 := μ) (d2_ok (sl_toN rfl rfl) (F_ok (cons_ok (F_ok (cons_ok (ix_ok (ix_ok rfl rfl (.inr rfl) h1) rfl (.inr rfl) at0) (cons_ok rfl nil_ok)) (tup_ok (show 2 ≤ lim by decide))) nil_ok) (tup_ok (show 1 ≤ lim by decide))) ?_) (sl_fromN (k := thing + 1) rfl (d2_ok rfl rfl addI_ok)) ?_
    · rw [← List.map_take, addT_ok (by rw [List.length_map, List.length_take]; show min thing tree.length + 1 ≤ lim; omega), List.map_append]
      rfl
    · rw [← List.map_drop, addT_ok ?_, ← List.map_append]
      rw [List.length_map, List.length_map, List.length_append, List.length_take, List.length_drop]
      have := (List.getElem?_eq_some_iff.mp e1).1
      show min thing tree.length + 1 + (tree.length - (thing + 1)) ≤ lim
      omega
  · cases e
def cStep (tree : List Pr) (m : Pr) : Option (List Pr) := if letM tree m.1 m.2 = true ∧ 0 ≤ m.1 then movedM tree m.1.toNat m.2 else none
def cM (L : List Rw) (c : List Nat) : Option D := if (okL 0 L && decide (L.length ≤ 1000) && okChain L.length c) = true then (uM L c).bind fun r => match r with
  | none => some (.int 200)
  | some u => (foldO cStep u.moves u.tree).bind fun tree => (tree[u.thing]?).bind fun q => if q.1 = 1 then some (.tuple [.int tree.length, .int u.moves.length]) else none
  else none
theorem counted_ok {μ : Sto} (L : List Rw) (c : List Nat) (r : D) (e : cM L c = some r) : f_law_counted [course L c] μ = some (r, μ) := by
  unfold cM at e
  split at e
  · rename_i hw
    rw [Bool.and_eq_true, Bool.and_eq_true] at hw
    obtain ⟨⟨hL, hl⟩, hc⟩ := hw
    have hl := of_decide_eq_true hl
    obtain ⟨u, e1, e⟩ := bind_some e
    have hu := unfold_ok (μ := μ) (b := rules0) L c hL hl hc u e1
    have hg : f_law_ground [] μ = some (.tuple [house0, rules0], μ) := rfl
    refine fDef_rt rfl ?_
    refine seq_nx (asg_ok (F_ok nil_ok hg) rfl) ?_
    cases u with
    | none =>
      cases e
      refine seq_rt ?_
      unfold sTryX xAsg
      show ((((dCons (dVar 1) (dCons (dVar 2) (dCons (dC (.int 1)) (dCons (dVar 0) dNil)))) _ μ).bind _).bind _) = _
      rw [show (dCons (dVar 1) (dCons (dVar 2) (dCons (dC (.int 1)) (dCons (dVar 0) dNil)))) _ μ = some ([house0, rules0, .int 1, course L c], μ) from rfl, Option.bind_some]
      dsimp only
      rw [hu]
      rfl
    | some u =>
      dsimp only at e
      obtain ⟨tree, e2, e⟩ := bind_some e
      obtain ⟨q, e3, e⟩ := bind_some e
      split at e
      · rename_i hq
        cases e
        refine seq_nx (σ1 := [some (course L c), some house0, some rules0, some (.tuple (u.tree.map eP)), some (.int u.thing), some (.tuple (u.moves.map eP)), none, none, none]) (μ1 := μ) ?_ ?_
        · unfold sTryX xAsg
          show ((((dCons (dVar 1) (dCons (dVar 2) (dCons (dC (.int 1)) (dCons (dVar 0) dNil)))) _ μ).bind _).bind _) = _
          rw [show (dCons (dVar 1) (dCons (dVar 2) (dCons (dC (.int 1)) (dCons (dVar 0) dNil)))) _ μ = some ([house0, rules0, .int 1, course L c], μ) from rfl, Option.bind_some]
          dsimp only
          rw [hu]
          rfl
        · have key := sLoop_rel (g := tTupD 2 (tMore (tName 7) (tMore (tName 8) tNone))) (b := (sSeq (sIf (bVal (dIsN (dF f_law_letting (dCons (dVar 1) (dCons (dVar 2) (dCons (dVar 3) (dCons (dVar 7) (dCons (dVar 8) dNil))))))))
              (sRet (dC .none)) sSkip) (sSet 3 (dF f_law_moved (dCons (dVar 3) (dCons (dVar 7) (dCons (dVar 8) dNil))))))) (s := ⟨u.moves.map eP, none⟩) eP cStep
            (fun tr σ μ' => μ' = μ ∧ ∃ x1 x2, σ = [some (course L c), some house0, some rules0, some (.tuple (tr.map eP)), some (.int u.thing), some (.tuple (u.moves.map eP)), none, x1, x2]) (fun _ _ _ _ => okB_none) ?_ u.moves u.tree tree _ μ ⟨rfl, none, none, rfl⟩ e2
          · obtain ⟨σ', μ', ⟨rfl, x1, x2, rfl⟩, hlp⟩ := key
            refine seq_nx (for_ok (s := ⟨u.moves.map eP, none⟩) (μ1 := μ') (iSeq_tup rfl) hlp) (ret_ok ?_)
            have h1 : atI (tree.map eP) (u.thing : Int) = some (eP q) := by rw [atI_nat, List.getElem?_map, e3]; rfl
            unfold dIf
            rw [show bVal (d2 gEq (d2 gIx (d2 gIx (dVar 3) (dVar 4)) (dC (.int 0))) (dC (.int 1))) _ μ' = some (true, μ') from val_ok (d2_ok (ix_ok (d := eP q) (ix_ok rfl rfl (.inr rfl) h1) rfl (.inr rfl) at0) rfl (eqI.trans (by rw [hq]; rfl))), Option.bind_some]
            rw [if_pos rfl]
            refine F_ok (cons_ok (F_ok (cons_ok rfl nil_ok) ((len_ok (.inr rfl)).trans (by rw [List.length_map]))) (cons_ok (F_ok (cons_ok rfl nil_ok) ((len_ok (.inr rfl)).trans (by rw [List.length_map]))) nil_ok)) (tup_ok (show 2 ≤ lim by decide))
          · rintro m tr tr' σ μ2 ⟨rfl, x1, x2, rfl⟩ es
            unfold cStep at es
            split at es
            · rename_i hm
              obtain ⟨m1, m2⟩ := m
              obtain ⟨hm1, hm2⟩ := hm
              dsimp only at hm1 hm2 es
              obtain ⟨k, rfl⟩ : ∃ k : Nat, m1 = (k : Int) := ⟨m1.toNat, by omega⟩
              rw [Int.toNat_natCast] at es
              obtain ⟨i, hi⟩ := letting_ok (μ := μ2) tr k m2 hm1
              refine ⟨_, rfl, _, μ2, ⟨rfl, some (.int (k : Nat)), some (.int m2), rfl⟩, .inl ?_⟩
              refine seq_nx (if_f (μ1 := μ2) (val_ok ?_) rfl) (set_ok (F_ok (cons_ok rfl (cons_ok rfl (cons_ok rfl nil_ok))) (moved_ok tr k m2 tr' es)))
              unfold dIsN
              rw [show dF f_law_letting _ _ μ2 = some (.int i, μ2) from F_ok (cons_ok rfl (cons_ok rfl (cons_ok rfl (cons_ok rfl (cons_ok rfl nil_ok))))) hi]
              rfl
            · cases es
      · cases e
  · cases e
end Dn
end

section
set_option maxRecDepth 100000
set_option maxHeartbeats 4000000
namespace Dn
open PySem L2
/-! ### a longer ledger answers the same -/
theorem foldO_mono {α S : Type} {f g : S → α → Option S} (h : ∀ s x t, f s x = some t → g s x = some t) : ∀ (l : List α) (s t : S), foldO f l s = some t → foldO g l s = some t
  | [], _, _, e => e
  | x :: l, s, t, e => by
    obtain ⟨u, e1, e2⟩ := bind_some e
    show (g s x).bind _ = _
    rw [h s x u e1]
    exact foldO_mono h l u t e2
theorem rec_mono (L M : List Rw) : ∀ n, (∀ i first r, gM L n i first = some r → gM (L ++ M) n i first = some r) ∧ (∀ c thing first r, fM L n c thing first = some r → fM (L ++ M) n c thing first = some r)
  | 0 => ⟨fun i first r e => (by unfold gM at e; cases e), fun c thing first r e => (by unfold fM at e; cases e)⟩
  | n + 1 => by
    obtain ⟨ihg, ihf⟩ := rec_mono L M n
    refine ⟨fun i first r e => ?_, fun c thing first r e => ?_⟩
    · unfold gM at e ⊢
      obtain ⟨rw_, e1, e⟩ := bind_some e
      rw [List.getElem?_append_left (List.getElem?_eq_some_iff.mp e1).1, e1, Option.bind_some]
      cases rw_ with
      | none => exact e
      | some c =>
        dsimp only at e ⊢
        obtain ⟨i0, e2, e⟩ := bind_some e
        obtain ⟨q, e3, e⟩ := bind_some e
        obtain ⟨p, e4, e⟩ := bind_some e
        rw [e2, Option.bind_some, ihg _ _ _ e3, Option.bind_some, ihf _ _ _ _ e4, Option.bind_some]
        exact e
    · unfold fM at e ⊢
      split at e
      · rename_i hc
        rw [if_pos hc]
        refine foldO_mono (fun s x t es => ?_) _ _ _ e
        unfold fStep at es ⊢
        obtain ⟨q, e1, es⟩ := bind_some es
        rw [ihg _ _ _ e1]
        exact es
      · cases e
theorem mRows_append (L M : List Rw) : ∃ X, mRows (L ++ M) = mRows L ++ X := by
  unfold mRows
  rw [List.foldl_append]
  generalize L.foldl (fun T r => T ++ [mRow T r]) [] = T
  induction M generalizing T with
  | nil => exact ⟨[], by simp⟩
  | cons r M ih =>
    obtain ⟨X, e⟩ := ih (T ++ [mRow T r])
    exact ⟨mRow T r :: X, by rw [List.foldl_cons, e]; simp⟩
theorem mRows_length (L : List Rw) : (mRows L).length = L.length := by
  have : ∀ (l : List Rw) (T : Tl), (l.foldl (fun T r => T ++ [mRow T r]) T).length = T.length + l.length := by
    intro l
    induction l with
    | nil => intro T; rfl
    | cons r l ih =>
      intro T
      rw [List.foldl_cons, ih, List.length_append, List.length_cons]
      show T.length + 1 + l.length = T.length + (l.length + 1)
      omega
  exact (this L []).trans (by simp)
theorem mCost_mono (L M : List Rw) (c : List Nat) (h : ∀ i ∈ c, i < L.length) : mCost (mRows (L ++ M)) c = mCost (mRows L) c := by
  obtain ⟨X, e⟩ := mRows_append L M
  have : costs (mRows (L ++ M)) c = costs (mRows L) c := by
    unfold costs
    refine List.map_congr_left fun i hi => ?_
    have hl := h i (ev_mem hi)
    rw [← mRows_length L] at hl
    rw [e, List.getD_eq_getElem?_getD, List.getD_eq_getElem?_getD, List.getElem?_append_left hl]
  unfold mCost
  rw [this]
theorem cM_mono (L M : List Rw) (c : List Nat) (r : D) (hw : okL 0 (L ++ M) = true) (hl : (L ++ M).length ≤ 1000) (e : cM L c = some r) : cM (L ++ M) c = some r := by
  unfold cM at e ⊢
  split at e
  · rename_i h0
    rw [Bool.and_eq_true, Bool.and_eq_true] at h0
    obtain ⟨⟨h1, h2⟩, h3⟩ := h0
    obtain ⟨k1, k2, k3⟩ := okChain_of h3
    have h4 : okChain (L ++ M).length c = true := by
      unfold okChain at h3 ⊢
      rw [Bool.and_eq_true, Bool.and_eq_true] at h3 ⊢
      refine ⟨⟨h3.1.1, List.all_eq_true.mpr fun i hi => decide_eq_true ?_⟩, h3.2⟩
      rw [List.length_append]
      have := k2 i hi
      omega
    rw [if_pos (by rw [hw, decide_eq_true hl, h4]; rfl)]
    obtain ⟨u, e1, e⟩ := bind_some e
    have e2 : uM (L ++ M) c = some u := by
      unfold uM at e1 ⊢
      rw [mCost_mono L M c k2]
      split at e1
      · rename_i hb
        rw [if_pos hb]
        exact e1
      · rename_i hb
        rw [if_neg hb]
        obtain ⟨c0, f1, e1⟩ := bind_some e1
        obtain ⟨q, f2, e1⟩ := bind_some e1
        obtain ⟨p, f3, e1⟩ := bind_some e1
        rw [f1, Option.bind_some, (rec_mono L M 110).1 _ _ _ f2, Option.bind_some, (rec_mono L M 110).2 _ _ _ _ f3, Option.bind_some]
        exact e1
    rw [e2]
    exact e
  · cases e
/-! ### the ledgers -/
def twiceL (n : Nat) : List Rw := none :: (List.range n).map fun i => some [i, 0, i]
def nineL : List Rw := none :: (List.range 99).map fun i => some (i :: (List.replicate 8 [0, i]).flatten)
def oneL : List Rw := none :: (List.range 99).map fun i => some [i]
def isN (o : Option D) (a b : Int) : Bool := match o with
  | some (.tuple [.int x, .int y]) => x == a && y == b
  | _ => false
def is200 (o : Option D) : Bool := match o with
  | some (.int x) => x == 200
  | _ => false
theorem isN_of {o : Option D} {a b : Int} (h : isN o a b = true) : o = some (.tuple [.int a, .int b]) := by
  unfold isN at h
  split at h
  · rw [Bool.and_eq_true, beq_iff_eq, beq_iff_eq] at h
    rw [h.1, h.2]
  · cases h
theorem is200_of {o : Option D} (h : is200 o = true) : o = some (.int 200) := by
  unfold is200 at h
  split at h
  · rw [beq_iff_eq.mp h]
  · cases h
theorem okL_twice (n : Nat) : ∀ k, okL k ((List.range' n k).map fun i => some [i, 0, i]) = true → True := fun _ _ => trivial
theorem okL_append : ∀ (L M : List Rw) (n : Nat), okL n (L ++ M) = (okL n L && okL (n + L.length) M)
  | [], M, n => by show okL n M = (true && okL (n + 0) M); simp
  | r :: L, M, n => by
    show (okRow n r && okL (n + 1) (L ++ M)) = ((okRow n r && okL (n + 1) L) && okL (n + (L.length + 1)) M)
    rw [okL_append L M (n + 1), Bool.and_assoc, show n + 1 + L.length = n + (L.length + 1) by omega]
theorem twice_succ (n : Nat) : twiceL (n + 1) = twiceL n ++ [some [n, 0, n]] := by
  unfold twiceL
  rw [List.range_succ, List.map_append]
  rfl
theorem twice_len (n : Nat) : (twiceL n).length = n + 1 := by
  unfold twiceL
  rw [List.length_cons, List.length_map, List.length_range]
theorem twice_ok : ∀ n, okL 0 (twiceL n) = true
  | 0 => rfl
  | n + 1 => by
    rw [twice_succ, okL_append, twice_ok n, twice_len]
    show (true && (okChain (0 + (n + 1)) [n, 0, n] && true)) = true
    unfold okChain
    simp
theorem twice_split (n k : Nat) : ∃ M, twiceL (n + k) = twiceL n ++ M := by
  induction k with
  | zero => exact ⟨[], by simp⟩
  | succ k ih =>
    obtain ⟨M, e⟩ := ih
    exact ⟨M ++ [some [n + k, 0, n + k]], by rw [show n + (k + 1) = (n + k) + 1 by omega, twice_succ, e, List.append_assoc]⟩
theorem twice_up {n : Nat} (h8 : 8 ≤ n) (hn : n < 100) (c : List Nat) (r : D) (e : cM (twiceL 8) c = some r) : cM (twiceL n) c = some r := by
  obtain ⟨M, eM⟩ := twice_split 8 (n - 8)
  rw [show 8 + (n - 8) = n by omega] at eM
  rw [eM]
  refine cM_mono _ _ _ _ ?_ ?_ e
  · rw [← eM]
    exact twice_ok n
  · rw [← eM, twice_len]
    omega
theorem tw1 : cM (twiceL 8) [1] = some (.tuple [.int 2, .int 1]) := isN_of (by decide +kernel)
theorem tw4 : cM (twiceL 8) [4] = some (.tuple [.int 16, .int 15]) := isN_of (by decide +kernel)
theorem tw7 : cM (twiceL 8) [7] = some (.tuple [.int 128, .int 127]) := isN_of (by decide +kernel)
theorem tw8 : cM (twiceL 8) [8] = some (.int 200) := is200_of (by decide +kernel)
/-- the told rows of the twice ledger: 2^i - 1 -/
theorem twice_told : ∀ n, mRows (twiceL n) = (List.range (n + 1)).map fun i => (2 ^ i - 1, 2 ^ i - 1)
  | 0 => rfl
  | n + 1 => by
    have e : mRows (twiceL (n + 1)) = mRows (twiceL n) ++ [mRow (mRows (twiceL n)) (some [n, 0, n])] := by
      unfold mRows
      rw [twice_succ, List.foldl_append]
      rfl
    have hn : (mRows (twiceL n)).getD n (0, 0) = (2 ^ n - 1, 2 ^ n - 1) := by
      rw [twice_told n, List.getD_eq_getElem?_getD, List.getElem?_map, List.getElem?_range (by omega)]
      rfl
    have hr : mRow (mRows (twiceL n)) (some [n, 0, n]) = (2 ^ (n + 1) - 1, 2 ^ (n + 1) - 1) := by
      have hc : costs (mRows (twiceL n)) [n, 0, n] = [(2 ^ n - 1, 2 ^ n - 1), (2 ^ n - 1, 2 ^ n - 1)] := by
        unfold costs
        rw [show ev 0 [n, 0, n] = [n, n] by simp [ev, List.range, List.range.loop]]
        simp only [List.map_cons, List.map_nil, hn]
      have hp : 0 < 2 ^ n := Nat.pow_pos (by decide)
      show (((costs (mRows (twiceL n)) [n, 0, n]).map (·.1)).sum + 3 / 2, ((costs (mRows (twiceL n)) [n, 0, n]).map (·.2)).sum + 1) = _
      rw [hc, Nat.pow_succ]
      simp
      omega
    rw [e, hr, twice_told n, List.range_succ (n := n + 1), List.map_append]
    rfl
theorem twN {n : Nat} (h8 : 8 ≤ n) (hn : n < 100) : cM (twiceL n) [n] = some (.int 200) := by
  unfold cM
  rw [if_pos (by rw [twice_ok, twice_len]; unfold okChain; simp; omega)]
  have hb : 200 < (mCost (mRows (twiceL n)) [n]).1 := by
    have hc : costs (mRows (twiceL n)) [n] = [(2 ^ n - 1, 2 ^ n - 1)] := by
      unfold costs
      rw [show ev 0 [n] = [n] by simp [ev, List.range, List.range.loop]]
      simp only [List.map_cons, List.map_nil]
      rw [twice_told n, List.getD_eq_getElem?_getD, List.getElem?_map, List.getElem?_range (by omega)]
      rfl
    unfold mCost
    rw [hc]
    have : 2 ^ 8 ≤ 2 ^ n := Nat.pow_le_pow_right (by decide) h8
    simp
    omega
  have e : uM (twiceL n) [n] = some none := by
    unfold uM
    rw [if_pos (.inl hb)]
  rw [e]
  rfl
theorem ni1 : cM nineL (1 :: (List.replicate 8 [1, 1]).flatten) = some (.tuple [.int 10, .int 80]) := isN_of (by decide +kernel)
theorem ni99 : cM nineL (99 :: (List.replicate 8 [1, 99]).flatten) = some (.int 200) := is200_of (by decide +kernel)
/-! ### the one ledger -/
theorem one_told : mRows oneL = (List.range 100).map fun i => (0, i) := by
  have h : (mRows oneL == (List.range 100).map fun i => (0, i)) = true := by decide +kernel
  exact beq_iff_eq.mp h
theorem one_at {i : Nat} (h : i < 99) : oneL[i + 1]? = some (some [i]) := by
  unfold oneL
  rw [List.getElem?_cons_succ, List.getElem?_map, List.getElem?_range h]
  rfl
def pl (first : Nat) : Nat → Int
  | 0 => -1
  | k + 1 => ((first + k : Nat) : Int)
def oneA (first i : Nat) : List Pr := (List.range i).map fun k => (0, pl first k)
theorem one_grown (first : Nat) : ∀ (i n : Nat), i ≤ 99 → gM oneL (n + i + 2) i first = some (oneA first i, pl first i, [])
  | 0, n, _ => by unfold gM; rfl
  | i + 1, n, h => by
    have ih := one_grown first i n (by omega)
    have hl : (oneA first i).length = i := by unfold oneA; rw [List.length_map, List.length_range]
    show gM oneL ((n + i + 2) + 1) (i + 1) first = _
    unfold gM
    rw [one_at (by omega), Option.bind_some]
    show (([i] : List Nat)[0]?).bind _ = _
    rw [show ([i] : List Nat)[0]? = some i from rfl, Option.bind_some, ih, Option.bind_some]
    show (fM oneL (n + i + 1 + 1) [i] (first + (oneA first i).length) (first + (oneA first i).length + 1)).bind _ = _
    have hf : ∀ a b, fM oneL (n + i + 1 + 1) [i] a b = some ([], []) := fun a b => by
      unfold fM
      rw [if_pos (show [i].length ≤ lim from (by decide : 1 ≤ lim)), show ev 2 [i] = [] by simp [ev]]
      rfl
    rw [hf, Option.bind_some]
    have h9 : 1000 ≤ lim := by decide
    refine (if_pos ⟨?ca, ?cb, Nat.zero_le _⟩).trans ?cc
    case ca =>
      show (oneA first i).length + 1 ≤ lim
      omega
    case cb =>
      show (oneA first i).length + 1 + 0 ≤ lim
      omega
    case cc =>
      show some (oneA first i ++ [(0, pl first i)] ++ [], ((first + (oneA first i).length : Nat) : Int), [] ++ []) = _
      rw [hl]
      unfold oneA
      rw [List.range_succ, List.map_append, List.append_nil]
      rfl
theorem one_len (first i : Nat) : (oneA first i).length = i := by unfold oneA; rw [List.length_map, List.length_range]
theorem one_grown' (first i : Nat) (h : i ≤ 99) (k : Nat) (hk : 101 ≤ k) : gM oneL k i first = some (oneA first i, pl first i, []) := by
  have q := one_grown first i (k - i - 2) h
  rwa [show k - i - 2 + i + 2 = k by omega] at q
def oneU (a b c : Nat) : Un := ⟨oneA 0 a ++ [(1, pl 0 a)] ++ (oneA (a + 1) b ++ oneA (a + 1 + b) c), a, [((a : Int), pl (a + 1) b), ((a : Int), pl (a + 1 + b) c)]⟩
theorem one_cost {a b c : Nat} (ha : a ≤ 99) (hb : b ≤ 99) (hc : c ≤ 99) : mCost (mRows oneL) [a, 1, b, 1, c] = (2, a + b + c) := by
  have hT : ∀ i, i ≤ 99 → (mRows oneL).getD i (0, 0) = (0, i) := fun i hi => by
    rw [one_told, List.getD_eq_getElem?_getD, List.getElem?_map, List.getElem?_range (by omega)]
    rfl
  unfold mCost costs
  rw [show ev 0 [a, 1, b, 1, c] = [a, b, c] by simp [ev, List.range, List.range.loop]]
  simp only [List.map_cons, List.map_nil, hT a ha, hT b hb, hT c hc]
  simp
  omega
theorem one_un {a b c : Nat} (ha : a ≤ 99) (hb : b ≤ 99) (hc : c ≤ 99) (hs : a + b + c < 200) : uM oneL [a, 1, b, 1, c] = some (some (oneU a b c)) := by
  have h9 : 1000 ≤ lim := by decide
  unfold uM
  rw [one_cost ha hb hc]
  rw [if_neg (show ¬ (200 < 2 ∨ 200 ≤ a + b + c) by omega)]
  show (([a, 1, b, 1, c] : List Nat)[0]?).bind _ = _
  rw [show ([a, 1, b, 1, c] : List Nat)[0]? = some a from rfl, Option.bind_some, one_grown' 0 a ha 110 (by decide), Option.bind_some]
  have hf : fM oneL 110 [a, 1, b, 1, c] a (a + 1) = some (oneA (a + 1) b ++ oneA (a + 1 + b) c, [((a : Int), pl (a + 1) b), ((a : Int), pl (a + 1 + b) c)]) := by
    show fM oneL (109 + 1) [a, 1, b, 1, c] a (a + 1) = _
    unfold fM
    rw [if_pos (show [a, 1, b, 1, c].length ≤ lim from (by decide : 5 ≤ lim)), show ev 2 [a, 1, b, 1, c] = [b, c] by simp [ev, List.range, List.range.loop]]
    have s1 : fStep (gM oneL 109) a (a + 1) ([], []) b = some (oneA (a + 1) b, [((a : Int), pl (a + 1) b)]) := by
      unfold fStep
      rw [show a + 1 + ([], ([] : List Pr)).1.length = a + 1 from rfl, one_grown' (a + 1) b hb 109 (by decide), Option.bind_some]
      refine (if_pos ⟨?_, (by decide : 1 ≤ lim), (by decide : 1 ≤ lim)⟩).trans rfl
      show 0 + (oneA (a + 1) b).length ≤ lim
      rw [one_len]
      omega
    have s2 : fStep (gM oneL 109) a (a + 1) (oneA (a + 1) b, [((a : Int), pl (a + 1) b)]) c = some (oneA (a + 1) b ++ oneA (a + 1 + b) c, [((a : Int), pl (a + 1) b), ((a : Int), pl (a + 1 + b) c)]) := by
      unfold fStep
      rw [show a + 1 + (oneA (a + 1) b, [((a : Int), pl (a + 1) b)]).1.length = a + 1 + b by show a + 1 + (oneA (a + 1) b).length = _; rw [one_len], one_grown' (a + 1 + b) c hc 109 (by decide), Option.bind_some]
      refine (if_pos ⟨?_, (by decide : 2 ≤ lim), (by decide : 2 ≤ lim)⟩).trans rfl
      show (oneA (a + 1) b).length + (oneA (a + 1 + b) c).length ≤ lim
      rw [one_len, one_len]
      omega
    show (fStep (gM oneL 109) a (a + 1) ([], []) b).bind _ = _
    rw [s1, Option.bind_some]
    show (fStep (gM oneL 109) a (a + 1) (oneA (a + 1) b, [((a : Int), pl (a + 1) b)]) c).bind _ = _
    rw [s2]
    rfl
  rw [show (oneA 0 a, pl 0 a, ([] : List Pr)).1.length = a from one_len 0 a, hf, Option.bind_some]
  refine (if_pos ⟨?_, ?_, (by decide : 2 ≤ lim)⟩).trans rfl
  · omega
  · show a + 1 + (oneA (a + 1) b ++ oneA (a + 1 + b) c).length ≤ lim
    rw [List.length_append, one_len, one_len]
    omega
def simU (u : Un) : Option D := (foldO cStep u.moves u.tree).bind fun tree => (tree[u.thing]?).bind fun q => if q.1 = 1 then some (.tuple [.int tree.length, .int u.moves.length]) else none
theorem one_okL : okL 0 oneL = true := by decide +kernel
theorem one_size : oneL.length = 100 := by decide +kernel
theorem one_counted {a b c : Nat} (ha : a ≤ 99) (hb : b ≤ 99) (hc : c ≤ 99) (hs : a + b + c < 200) (r : D) (h : simU (oneU a b c) = some r) : cM oneL [a, 1, b, 1, c] = some r := by
  unfold cM
  rw [if_pos (by rw [one_okL, one_size]; unfold okChain; simp; omega), one_un ha hb hc hs]
  exact h
theorem one_over {a b c : Nat} (ha : a ≤ 99) (hb : b ≤ 99) (hc : c ≤ 99) (hs : 200 ≤ a + b + c) : cM oneL [a, 1, b, 1, c] = some (.int 200) := by
  unfold cM
  rw [if_pos (by rw [one_okL, one_size]; unfold okChain; simp; omega)]
  have e : uM oneL [a, 1, b, 1, c] = some none := by
    unfold uM
    rw [one_cost ha hb hc, if_pos (.inr hs)]
  rw [e]
  rfl
end Dn
end

section
set_option maxRecDepth 100000
set_option maxHeartbeats 4000000
namespace Dn
open PySem L2
theorem sim0 : ∀ k, k < 10 → isN (simU (oneU (99 - (0 + k)) 99 (1 + (0 + k)))) 200 2 = true := by decide +kernel
theorem sim1 : ∀ k, k < 10 → isN (simU (oneU (99 - (10 + k)) 99 (1 + (10 + k)))) 200 2 = true := by decide +kernel
theorem sim2 : ∀ k, k < 10 → isN (simU (oneU (99 - (20 + k)) 99 (1 + (20 + k)))) 200 2 = true := by decide +kernel
theorem sim3 : ∀ k, k < 10 → isN (simU (oneU (99 - (30 + k)) 99 (1 + (30 + k)))) 200 2 = true := by decide +kernel
theorem sim4 : ∀ k, k < 10 → isN (simU (oneU (99 - (40 + k)) 99 (1 + (40 + k)))) 200 2 = true := by decide +kernel
theorem sim5 : ∀ k, k < 10 → isN (simU (oneU (99 - (50 + k)) 99 (1 + (50 + k)))) 200 2 = true := by decide +kernel
theorem sim6 : ∀ k, k < 10 → isN (simU (oneU (99 - (60 + k)) 99 (1 + (60 + k)))) 200 2 = true := by decide +kernel
theorem sim7 : ∀ k, k < 10 → isN (simU (oneU (99 - (70 + k)) 99 (1 + (70 + k)))) 200 2 = true := by decide +kernel
theorem sim8 : ∀ k, k < 10 → isN (simU (oneU (99 - (80 + k)) 99 (1 + (80 + k)))) 200 2 = true := by decide +kernel
theorem sims {m : Nat} (h : m < 90) : cM oneL [99 - m, 1, 99, 1, 1 + m] = some (.tuple [.int 200, .int 2]) := by
  refine one_counted (by omega) (by omega) (by omega) (by omega) _ (isN_of ?_)
  rcases Nat.lt_or_ge m 10 with h0 | h0
  · have q := sim0 (m - 0) (by omega)
    rwa [show 0 + (m - 0) = m by omega] at q
  rcases Nat.lt_or_ge m 20 with h1 | h1
  · have q := sim1 (m - 10) (by omega)
    rwa [show 10 + (m - 10) = m by omega] at q
  rcases Nat.lt_or_ge m 30 with h2 | h2
  · have q := sim2 (m - 20) (by omega)
    rwa [show 20 + (m - 20) = m by omega] at q
  rcases Nat.lt_or_ge m 40 with h3 | h3
  · have q := sim3 (m - 30) (by omega)
    rwa [show 30 + (m - 30) = m by omega] at q
  rcases Nat.lt_or_ge m 50 with h4 | h4
  · have q := sim4 (m - 40) (by omega)
    rwa [show 40 + (m - 40) = m by omega] at q
  rcases Nat.lt_or_ge m 60 with h5 | h5
  · have q := sim5 (m - 50) (by omega)
    rwa [show 50 + (m - 50) = m by omega] at q
  rcases Nat.lt_or_ge m 70 with h6 | h6
  · have q := sim6 (m - 60) (by omega)
    rwa [show 60 + (m - 60) = m by omega] at q
  rcases Nat.lt_or_ge m 80 with h7 | h7
  · have q := sim7 (m - 70) (by omega)
    rwa [show 70 + (m - 70) = m by omega] at q
  rcases Nat.lt_or_ge m 90 with h8 | h8
  · have q := sim8 (m - 80) (by omega)
    rwa [show 80 + (m - 80) = m by omega] at q
  omega
theorem sim_a : cM oneL [99, 1, 99, 1, 0] = some (.tuple [.int 199, .int 2]) := one_counted (by decide) (by decide) (by decide) (by decide) _ (isN_of (by decide +kernel))
theorem sim_c : cM oneL [99, 1, 99, 1, 2] = some (.int 200) := one_over (by decide) (by decide) (by decide) (by decide)
theorem sim_0 : cM oneL [0] = some (.tuple [.int 1, .int 0]) := isN_of (by decide +kernel)
def mvL : List Rw := [none, some (0 :: (List.replicate 8 [0, 0]).flatten), some (1 :: (List.replicate 8 [0, 1]).flatten), some [0, 0, 0]]
def mvC (k : Nat) : List Nat := [2, 1, 2] ++ (List.replicate 4 [1, 1]).flatten ++ (List.replicate k [1, 0]).flatten
theorem mv3 : cM mvL (mvC 2 ++ [1, 3]) = some (.int 200) := is200_of (by decide +kernel)
theorem mv0 : cM mvL (mvC 0) = some (.tuple [.int 25, .int 197]) := isN_of (by decide +kernel)
theorem mv1 : cM mvL (mvC 1) = some (.tuple [.int 25, .int 198]) := isN_of (by decide +kernel)
theorem mv2 : cM mvL (mvC 2) = some (.tuple [.int 25, .int 199]) := isN_of (by decide +kernel)
theorem mv4 : cM mvL (mvC 3) = some (.tuple [.int 25, .int 200]) := isN_of (by decide +kernel)
end Dn
end

section
set_option maxRecDepth 100000
set_option maxHeartbeats 4000000
namespace Dn
open PySem L2
theorem upD0 (n : Nat) : upD 0 n = (List.range n).map eN := by
  unfold upD eN
  refine List.map_congr_left fun i _ => ?_
  rw [Int.zero_add]
theorem range_ok {σ : Env} {μ : Sto} {f : Den} {n : Nat} (h : f σ μ = some (.int (n : Nat), μ)) (hn : n ≤ 1000) : iRange1 (dCons f dNil) σ μ = some (⟨(List.range n).map eN, none⟩, μ) := by
  unfold iRange1
  rw [cons_ok h nil_ok, Option.bind_some]
  show (if -(2 ^ 62) ≤ (n : Int) ∧ (n : Int) < 2 ^ 62 then some ((⟨upD 0 (n : Int).toNat, none⟩ : Src), μ) else none) = _
  rw [if_pos ⟨by omega, by omega⟩, Int.toNat_natCast, upD0]
/-- (('root',),) + tuple([.. for .. in range(n)]) -/
theorem ledger_ok {σ : Env} {f e : Den} {i n : Nat} {g : Nat → List Nat} (h : f σ [] = some (.int (n : Nat), [])) (hn : n ≤ 1000) (he : ∀ k, k < n → e ((wipeD σ [i]).set i (some (eN k))) [] = some (eRow (some (g k)), [])) :
    d2 gAdd (dF gTup (dCons (dF gTup (dCons (dC (.str ("root" : String))) dNil)) dNil)) (dF gTuple (dCons (dLc [i] (iRange1 (dCons f dNil)) (tName i) bYes e) dNil)) σ [] = some (.tuple ((none :: (List.range n).map fun k => some (g k)).map eRow), []) := by
  refine d2_ok (F_ok (cons_ok (F_ok (cons_ok rfl nil_ok) (tup_ok (show 1 ≤ lim by decide))) nil_ok) (tup_ok (show 1 ≤ lim by decide))) (F_ok (cons_ok (lc_ok (range_ok h hn) (lcLoop_map okB_none eN (fun k => eRow (some (g k))) (List.range n) [] ?_ ?_)) nil_ok) tuple_ok) ?_
  · rw [List.length_range]
    exact Nat.le_trans (by show 0 + n ≤ 1000; omega) (by decide)
  · intro k hk
    exact ⟨_, rfl, rfl, he k (List.mem_range.mp hk)⟩
  · rw [addT_ok (by rw [List.length_append, List.length_map, List.length_range]; exact Nat.le_trans (by show 1 + (0 + n) ≤ 1001; omega) (by decide))]
    rw [List.map_cons, List.map_map]
    rfl
theorem cnt_ok {σ : Env} {f : Den} {L : List Rw} {c : List Nat} {r : D} (h : f σ [] = some (course L c, [])) (e : cM L c = some r) : dF f_law_counted (dCons f dNil) σ [] = some (r, []) := F_ok (cons_ok h nil_ok) (counted_ok L c r e)
/-- a list of courses counted -/
theorem cnts_ok {σ : Env} {vs : List Nat} {it : DenI} {f : Den} {i : Nat} {α : Type} {a : α → D} {l : List α} {b : α → D} (h : it σ [] = some (⟨l.map a, none⟩, [])) (hl : l.length ≤ 1000) (hb : ∀ x ∈ l, dF f_law_counted (dCons f dNil) ((wipeD σ vs).set i (some (a x))) [] = some (b x, [])) :
    dLc vs it (tName i) bYes (dF f_law_counted (dCons f dNil)) σ [] = some (.list (l.map b), []) := by
  refine lc_ok h (lcLoop_map okB_none a b l [] (Nat.le_trans (by show 0 + l.length ≤ 1000; omega) (by decide)) fun x hx => ⟨_, rfl, rfl, hb x hx⟩)
theorem ne_ok {a : D} {μ : Sto} (h : SeqAt.shaped a = true) (h2 : PyData.eqv a a = true) : gNe a a μ = gNe a a μ := rfl
theorem gEq_true {a b : D} (ha : pk a [] = a) (hb : pk b [] = b) (h1 : SeqAt.shaped a = true) (h2 : SeqAt.shaped b = true) (h : PyData.eqv a b = true) : gEq a b [] = some (.bool true, []) := by
  unfold gEq
  rw [ha, hb, if_pos ⟨h1, h2⟩, h]
theorem gNe_false {a b : D} (ha : pk a [] = a) (hb : pk b [] = b) (h1 : SeqAt.shaped a = true) (h2 : SeqAt.shaped b = true) (h : PyData.eqv a b = true) : gNe a b [] = some (.bool false, []) := by
  unfold gNe
  rw [ha, hb, if_pos ⟨h1, h2⟩, h]
  rfl
theorem moves_right : f_law_moves_right [] [] = some (.bool true, []) := by
  refine fDef_rt rfl ?_
  refine seq_nx (set_ok (d := .tuple (mvL.map eRow)) (μ1 := []) rfl) ?_
  refine seq_nx (set_ok (d := .list ([(0 : Nat), 3].map fun k => if k = 0 then .tuple [.int 25, .int 200] else .int 200)) (μ1 := []) (cnts_ok (a := eN) (l := [0, 3]) rfl (by decide) fun x hx => ?_)) ?_
  · rcases List.mem_cons.mp hx with rfl | hx
    · exact cnt_ok (L := mvL) (c := mvC 3) rfl mv4
    · rw [List.mem_singleton.mp hx]
      exact cnt_ok (L := mvL) (c := mvC 2 ++ [1, 3]) rfl mv3
  refine seq_nx (if_f (μ1 := []) (val_ok (d2_ok (d3 := .list [.tuple [.int 25, .int 200], .int 200]) (μ2 := []) rfl rfl (gNe_false rfl rfl (by decide +kernel) (by decide +kernel) (by decide +kernel)))) rfl) ?_
  refine seq_nx (set_ok (d := .list ([(0 : Nat), 1, 2, 3].map fun k => .tuple [.int 25, .int ((197 + k : Nat) : Int)])) (μ1 := []) (cnts_ok (a := eN) (l := [0, 1, 2, 3]) (range_ok (n := 4) rfl (by decide)) (by decide) fun x hx => ?_)) (ret_ok ?_)
  · rcases List.mem_cons.mp hx with rfl | hx
    · exact cnt_ok (L := mvL) (c := mvC 0) rfl mv0
    rcases List.mem_cons.mp hx with rfl | hx
    · exact cnt_ok (L := mvL) (c := mvC 1) rfl mv1
    rcases List.mem_cons.mp hx with rfl | hx
    · exact cnt_ok (L := mvL) (c := mvC 2) rfl mv2
    · rw [List.mem_singleton.mp hx]
      exact cnt_ok (L := mvL) (c := mvC 3) rfl mv4
  · exact d2_ok (d3 := .list [.tuple [.int 25, .int 197], .tuple [.int 25, .int 198], .tuple [.int 25, .int 199], .tuple [.int 25, .int 200]]) (μ2 := []) rfl rfl (gEq_true rfl rfl (by decide +kernel) (by decide +kernel) (by decide +kernel))
end Dn
end

section
set_option maxRecDepth 100000
set_option maxHeartbeats 4000000
namespace Dn
open PySem L2
theorem sub99 {σ : Env} {m : Nat} (hm : m < 90) (h : dVar 0 σ [] = some (.int (m : Nat), [])) : d2 gSub (dC (.int 99)) (dVar 0) σ [] = some (.int ((99 - m : Nat) : Int), []) := by
  refine d2_ok rfl h ?_
  show some ((.int (99 - (m : Int)) : D), []) = _
  rw [show (99 : Int) - (m : Int) = ((99 - m : Nat) : Int) by omega]
theorem addN {σ : Env} {m k : Nat} (h : dVar 0 σ [] = some (.int (m : Nat), [])) : d2 gAdd (dC (.int (k : Nat))) (dVar 0) σ [] = some (.int ((k + m : Nat) : Int), []) := d2_ok rfl h rfl
theorem andV_t {σ : Env} {μ μ1 : Sto} {f g : Den} {q : Option (D × Sto)} (h : f σ μ = some (.bool true, μ1)) (h2 : g σ μ1 = q) : dAndV f g σ μ = q := by
  unfold dAndV
  rw [h]
  exact h2
theorem things_right {m : Nat} (hm : m < 90) : f_law_things_right [.int (m : Nat)] [] = some (.bool true, []) := by
  refine fDef_rt rfl ?_
  have hled : ∀ σ : Env, d2 gAdd (dF gTup (dCons (dF gTup (dCons (dC (.str ("root" : String))) dNil)) dNil)) (dF gTuple (dCons (dLc [3] (iRange1 (dCons (dC (.int 99)) dNil)) (tName 3) bYes (dF gTup (dCons (dC (.int 0)) (dCons (dF gTup (dCons (dVar 3) dNil)) dNil)))) dNil)) (start0 5 [.int (m : Nat)]) [] = some (.tuple (oneL.map eRow), []) := fun _ =>
    ledger_ok (n := 99) (g := fun i => [i]) rfl (by decide) fun k _ => F_ok (cons_ok rfl (cons_ok (F_ok (cons_ok rfl nil_ok) (tup_ok (show 1 ≤ lim by decide))) nil_ok)) (tup_ok (show 2 ≤ lim by decide))
  refine seq_nx (set_ok (d := .tuple (oneL.map eRow)) (μ1 := []) (hled [])) ?_
  refine seq_nx (set_ok (d := .list ([(0 : Nat), 1, 2].map fun k => if k = 2 then .int 200 else .tuple [.int ((199 + k : Nat) : Int), .int 2])) (μ1 := []) (cnts_ok (a := eN) (l := [0, 1, 2]) (iSeq_tup rfl) (by decide) fun x hx => ?_)) ?_
  · have hX : ∀ k : Nat, dCons (dF gTup (dCons (dVar 1) (dCons (dF gTup (dCons (dC (.int 99)) (dCons (dC (.int 1)) (dCons (dC (.int 99)) (dCons (dC (.int 1)) (dCons (dVar 4) dNil)))))) dNil))) dNil
        ((wipeD ((start0 5 [.int (m : Nat)]).set 1 (some (.tuple (oneL.map eRow)))) [4]).set 4 (some (eN k))) [] = some ([course oneL [99, 1, 99, 1, k]], []) := fun k =>
      cons_ok (F_ok (cons_ok rfl (cons_ok (F_ok (cons_ok rfl (cons_ok rfl (cons_ok rfl (cons_ok rfl (cons_ok rfl nil_ok))))) (tup_ok (show 5 ≤ lim by decide))) nil_ok)) (tup_ok (show 2 ≤ lim by decide))) nil_ok
    rcases List.mem_cons.mp hx with rfl | hx
    · exact F_ok (hX 0) (counted_ok _ _ _ sim_a)
    rcases List.mem_cons.mp hx with rfl | hx
    · exact F_ok (hX 1) (counted_ok _ _ _ (sims (m := 0) (by decide)))
    · rw [List.mem_singleton.mp hx]
      exact F_ok (hX 2) (counted_ok _ _ _ sim_c)
  let σ1 : Env := [some (.int (m : Nat)), some (.tuple (oneL.map eRow)), some (.list [.tuple [.int 199, .int 2], .tuple [.int 200, .int 2], .int 200]), none, none]
  have hY : ∀ k : Nat, dCons (dF gTup (dCons (dVar 1) (dCons (dF gTup (dCons (d2 gSub (dC (.int 99)) (dVar 0)) (dCons (dC (.int 1)) (dCons (dC (.int 99)) (dCons (dC (.int 1)) (dCons (d2 gAdd (dC (.int (k : Nat))) (dVar 0)) dNil)))))) dNil))) dNil σ1 [] = some ([course oneL [99 - m, 1, 99, 1, k + m]], []) := fun k =>
    cons_ok (F_ok (cons_ok rfl (cons_ok (F_ok (cons_ok (sub99 hm rfl) (cons_ok rfl (cons_ok rfl (cons_ok rfl (cons_ok (addN rfl) nil_ok))))) (tup_ok (show 5 ≤ lim by decide))) nil_ok)) (tup_ok (show 2 ≤ lim by decide))) nil_ok
  refine seq_nx (σ1 := σ1) (μ1 := []) (if_f (μ1 := []) (or_f (μ1 := []) (val_ok (d2_ok (d3 := .list [.tuple [.int 199, .int 2], .tuple [.int 200, .int 2], .int 200]) (μ2 := []) rfl rfl (gNe_false rfl rfl (by decide +kernel) (by decide +kernel) (by decide +kernel))))
    (val_ok (d2_ok (d := .tuple [.int 200, .int 2]) (d3 := .tuple [.int 200, .int 2]) (μ1 := []) (μ2 := []) (F_ok (hY 1) (counted_ok _ _ _ (sims hm))) rfl (gNe_false rfl rfl (by decide +kernel) (by decide +kernel) (by decide +kernel))))) rfl) (ret_ok ?_)
  refine andV_t (μ1 := []) (d2_ok (F_ok (hY 2) (counted_ok _ _ _ (one_over (a := 99 - m) (b := 99) (c := 2 + m) (by omega) (by decide) (by omega) (by omega)))) rfl (gEq_true rfl rfl (by decide +kernel) (by decide +kernel) (by decide +kernel))) ?_
  exact d2_ok (d := .tuple [.int 1, .int 0]) (d3 := .tuple [.int 1, .int 0]) (μ1 := []) (μ2 := []) (cnt_ok (L := oneL) (c := [0]) rfl sim_0) rfl (gEq_true rfl rfl (by decide +kernel) (by decide +kernel) (by decide +kernel))
theorem mod_ok {σ : Env} {f : Den} {k : Nat} {j : Nat} (hj : j = 92 ∨ j = 90) (h : f σ [] = some (.int (k : Nat), [])) : d2 gMod f (dC (.int (j : Nat))) σ [] = some (.int ((k % j : Nat) : Int), []) := by
  refine d2_ok h rfl ?_
  rcases hj with rfl | rfl <;> rfl
theorem law_true (ns : List Int) : f_law [fz (ns.map .int)] [] = some (.bool true, []) := by
  refine fDef_rt rfl ?_
  obtain ⟨cs, k, hcs, hat⟩ : ∃ (cs : List D) (k : Nat), d2 gAdd (dLc [6] (iSeq (dSl (dVar 0) oNo (oPart (dC (.int 1))))) (tName 6) bYes (dF gAbs (dCons (dF gInt (dCons (dVar 6) dNil)) dNil))) (dF gLst (dCons (dC (.int 4)) dNil)) (start0 8 [fz (ns.map .int)]) [] = some (.list cs, []) ∧ atI cs 0 = some (.int (k : Nat)) := by
    cases ns with
    | nil => exact ⟨[.int 4], 4, rfl, rfl⟩
    | cons a t =>
      refine ⟨[.int (a.natAbs : Nat), .int 4], a.natAbs, ?_, at0⟩
      have hs : dSl (dVar 0) oNo (oPart (dC (.int 1))) (start0 8 [fz ((a :: t).map .int)]) [] = some (.list [.int a], []) := by
        show some ((.list (cutD ((a :: t).map .int) none (some ((1 : Nat) : Int))) : D), []) = _
        rw [cut_to]
        rfl
      refine d2_ok (d := .list [.int (a.natAbs : Nat)]) (μ1 := []) (lc_ok (iSeq_list hs) (lcLoop_map okB_none PyData.int (fun (i : Int) => .int (i.natAbs : Nat)) [a] [] (show 1 ≤ lim by decide) fun i _ => ⟨_, rfl, rfl, ?_⟩)) rfl rfl
      refine F_ok (cons_ok (F_ok (cons_ok rfl nil_ok) rfl) nil_ok) ?_
      show some ((.int (if i < 0 then -i else i) : D), []) = _
      rw [show (if i < 0 then -i else i) = ((i.natAbs : Nat) : Int) by split <;> omega]
  refine seq_nx (set_ok (d := .list cs) (μ1 := []) hcs) ?_
  obtain ⟨n, hn⟩ : ∃ n, n = 8 + k % 92 := ⟨_, rfl⟩
  have h8 : 8 ≤ n := by omega
  have h100 : n < 100 := by omega
  have hk : ∀ (σ : Env) (j : Nat), j = 92 ∨ j = 90 → σ[1]? = some (some (.list cs)) → d2 gMod (dF gInt (dCons (d2 gIx (dVar 1) (dC (.int 0))) dNil)) (dC (.int (j : Nat))) σ [] = some (.int ((k % j : Nat) : Int), []) := fun σ j hj hσ =>
    mod_ok hj (F_ok (cons_ok (ix_ok (d := .list cs) (μ1 := []) (by unfold dVar; rw [hσ]) rfl (.inl rfl) hat) nil_ok) rfl)
  refine seq_nx (set_ok (d := .int (n : Nat)) (μ1 := []) (d2_ok rfl (hk _ 92 (.inl rfl) rfl) (by rw [hn]; rfl))) ?_
  refine seq_nx (set_ok (d := .tuple ((twiceL n).map eRow)) (μ1 := []) (ledger_ok (n := n) (g := fun i => [i, 0, i]) rfl (by omega) fun k _ => F_ok (cons_ok rfl (cons_ok (F_ok (cons_ok rfl (cons_ok rfl (cons_ok rfl nil_ok))) (tup_ok (show 3 ≤ lim by decide))) nil_ok)) (tup_ok (show 2 ≤ lim by decide)))) ?_
  let σ3 : Env := [some (fz (ns.map .int)), some (.list cs), some (.int (n : Nat)), some (.tuple ((twiceL n).map eRow)), none, none, none, none]
  have hX : ∀ k : Nat, dCons (dF gTup (dCons (dVar 3) (dCons (dF gTup (dCons (dVar 7) dNil)) dNil))) dNil ((wipeD σ3 [7]).set 7 (some (eN k))) [] = some ([course (twiceL n) [k]], []) := fun k =>
    cons_ok (F_ok (cons_ok rfl (cons_ok (F_ok (cons_ok rfl nil_ok) (tup_ok (show 1 ≤ lim by decide))) nil_ok)) (tup_ok (show 2 ≤ lim by decide))) nil_ok
  let b : Nat → D := fun k => if k = 1 then .tuple [.int 2, .int 1] else if k = 4 then .tuple [.int 16, .int 15] else if k = 7 then .tuple [.int 128, .int 127] else .int 200
  have hbn : b n = .int 200 := by
    show (if n = 1 then _ else if n = 4 then _ else if n = 7 then _ else _) = _
    rw [if_neg (by omega), if_neg (by omega), if_neg (by omega)]
  have htold := cnts_ok (σ := σ3) (vs := [7]) (i := 7) (a := eN) (b := b) (l := [1, 4, 7, 8, n]) (it := iSeq (dF gTup (dCons (dC (.int 1)) (dCons (dC (.int 4)) (dCons (dC (.int 7)) (dCons (dC (.int 8)) (dCons (dVar 2) dNil))))))) (f := dF gTup (dCons (dVar 3) (dCons (dF gTup (dCons (dVar 7) dNil)) dNil))) (iSeq_tup rfl) (by show 5 ≤ 1000; decide) fun x hx => by
    rcases List.mem_cons.mp hx with rfl | hx
    · exact F_ok (hX 1) (counted_ok _ _ _ (twice_up h8 h100 _ _ tw1))
    rcases List.mem_cons.mp hx with rfl | hx
    · exact F_ok (hX 4) (counted_ok _ _ _ (twice_up h8 h100 _ _ tw4))
    rcases List.mem_cons.mp hx with rfl | hx
    · exact F_ok (hX 7) (counted_ok _ _ _ (twice_up h8 h100 _ _ tw7))
    rcases List.mem_cons.mp hx with rfl | hx
    · exact F_ok (hX 8) (counted_ok _ _ _ (twice_up h8 h100 _ _ tw8))
    · rw [List.mem_singleton.mp hx, hbn]
      exact F_ok (hX n) (counted_ok _ _ _ (twN h8 h100))
  have hmap : [1, 4, 7, 8, n].map b = [.tuple [.int 2, .int 1], .tuple [.int 16, .int 15], .tuple [.int 128, .int 127], .int 200, .int 200] := by
    show [b 1, b 4, b 7, b 8, b n] = _
    rw [hbn]
    rfl
  rw [hmap] at htold
  refine seq_nx (set_ok (d := .list [.tuple [.int 2, .int 1], .tuple [.int 16, .int 15], .tuple [.int 128, .int 127], .int 200, .int 200]) (μ1 := []) htold) ?_
  refine seq_nx (if_f (μ1 := []) (val_ok (d2_ok (d3 := .list [.tuple [.int 2, .int 1], .tuple [.int 16, .int 15], .tuple [.int 128, .int 127], .int 200, .int 200]) (μ2 := []) rfl rfl (gNe_false rfl rfl (by decide +kernel) (by decide +kernel) (by decide +kernel)))) rfl) ?_
  refine seq_nx (set_ok (d := .tuple (nineL.map eRow)) (μ1 := []) (ledger_ok (n := 99) (g := fun i => i :: (List.replicate 8 [0, i]).flatten) rfl (by decide) fun k _ => rfl)) ?_
  have hnine := cnts_ok (σ := [some (fz (ns.map .int)), some (.list cs), some (.int (n : Nat)), some (.tuple ((twiceL n).map eRow)), some (.list [.tuple [.int 2, .int 1], .tuple [.int 16, .int 15], .tuple [.int 128, .int 127], .int 200, .int 200]), some (.tuple (nineL.map eRow)), none, none]) (vs := [7]) (i := 7) (a := eN) (b := fun k => if k = 1 then .tuple [.int 10, .int 80] else .int 200) (l := [1, 99]) (it := iSeq (dF gTup (dCons (dC (.int 1)) (dCons (dC (.int 99)) dNil)))) (f := dF gTup (dCons (dVar 5) (dCons (d2 gAdd (dF gTup (dCons (dVar 7) dNil)) (d2 gMul (dF gTup (dCons (dC (.int 1)) (dCons (dVar 7) dNil))) (dC (.int 8)))) dNil))) (iSeq_tup rfl) (by decide) fun x hx => by
    rcases List.mem_cons.mp hx with rfl | hx
    · exact cnt_ok (L := nineL) (c := 1 :: (List.replicate 8 [1, 1]).flatten) rfl ni1
    · rw [List.mem_singleton.mp hx]
      exact cnt_ok (L := nineL) (c := 99 :: (List.replicate 8 [1, 99]).flatten) rfl ni99
  refine seq_nx (if_f (μ1 := []) (val_ok (d2_ok (d := .list [.tuple [.int 10, .int 80], .int 200]) (μ1 := []) (d3 := .list [.tuple [.int 10, .int 80], .int 200]) (μ2 := []) hnine rfl (gNe_false rfl rfl (by decide +kernel) (by decide +kernel) (by decide +kernel)))) rfl) (ret_ok ?_)
  refine andV_t (μ1 := []) (F_ok (cons_ok (hk _ 90 (.inr rfl) rfl) nil_ok) (things_right (Nat.mod_lt _ (by decide)))) (F_ok nil_ok moves_right)
end Dn
end

section
set_option maxRecDepth 100000
set_option maxHeartbeats 0
namespace Dn
open PySem PySem.Spec PyProof.Rows L2
def inner (st : Stmt) : Stmt := match st with
  | .ClassDef (body := b) .. => b.getD 0 st
  | _ => st
abbrev st_init : Stmt := inner (topS 1)
theorem sc_init : FnScope ["self", "limit"] ["self", "limit"] (defScope st_init) := ⟨rfl, rfl, rfl, by decide +kernel, rfl, by decide +kernel, by decide +kernel⟩
theorem init_ok {P : Program} {w : World} {K : PySem.W.Frag} {mg : Str → Option Value} {base : Heap} {C f : Addr} {fd : FuncData} (T : LimC K C "limit") (hm : mg "OverflowError" = none) (F : Fun K "__init__" "LimitExceeded.__init__" st_init f fd) (hv : PySem.W.findCls K (.type "OverflowError") (.type "type") "__init__" = some (.val (.builtin "OverflowError.__init__"))) : FnOk P w K mg base CX0 1 f fd ["self", "limit"] (spLim C "limit") :=
  lim_init T F sc_init fun cdv A outer s H E => ⟨"there are more than ", by decide +kernel, pss_cons (ps_expr (pe_ovInit T (by rfl) hm hv (pa_cons (pv 0) (pa_cons (pe_joined (.cons pe_str (.cons (pe_fmt (pv 1)) .nil))) pa_nil)))) (pss_one (ps_limS T (pv 0) (pv 1)))⟩
def fa : List He.Fa := [.glo "stepped", .glo "made", .glo "chain_told", .glo "row_told", .glo "rows_told", .glo "course_cost", .glo "grown", .glo "followed", .glo "unfold", .glo "_law_stepped", .glo "_law_made", .glo "_law_path", .glo "_law_content", .glo "_law_place", .glo "_law_letting", .glo "_law_moved", .glo "_law_ground", .glo "_law_counted", .glo "_law_things_right", .glo "_law_moves_right", .glo "law", .free "max", .free "min", .free "sum", .free "len", .free "tuple", .free "list", .free "enumerate", .free "range", .free "abs", .free "int", .int "MOST_MADE" 200, .glo "LimitExceeded", .free "OverflowError"]
def fn : List He.DefD := [mkD "stepped" st_stepped, mkD "made" st_made, mkD "chain_told" st_chain_told, mkD "row_told" st_row_told, mkD "rows_told" st_rows_told, mkD "course_cost" st_course_cost, mkD "grown" st_grown, mkD "followed" st_followed, mkD "unfold" st_unfold, mkD "_law_stepped" st_law_stepped, mkD "_law_made" st_law_made, mkD "_law_path" st_law_path, mkD "_law_content" st_law_content, mkD "_law_place" st_law_place, mkD "_law_letting" st_law_letting, mkD "_law_moved" st_law_moved, mkD "_law_ground" st_law_ground, mkD "_law_counted" st_law_counted, mkD "_law_things_right" st_law_things_right, mkD "_law_moves_right" st_law_moves_right, mkD "law" st_law, mkM "LimitExceeded" "__init__" "LimitExceeded.__init__" st_init]
def ex (K : PySem.W.Frag) : Bool := limB K "LimitExceeded" "limit" && (match PySem.W.findCls K (.type "OverflowError") (.type "type") "__init__" with
  | some (.val (.builtin n)) => n == "OverflowError.__init__"
  | _ => false)
abbrev R : PySem.W.OpenRow := PySem.W.OpenLaw.row PySem.Challenge.rw_movedfolders_k55_unfolded_at_the_bound
abbrev hk : PySem.W.Hook := He.hookX 5 fa fn [] [] ex
def ob (s : PySem.W.SharedT) : He.AlX := He.obsX 5 fa fn [] [] ex (HandSHeadRun.getT s)
theorem ob_eq (s : PySem.W.SharedT) : ob s = hk.obs s.abs := He.obsX_eq (HandSHeadRun.getT_eq s)
theorem run (w : World) : HandSHeadRun.RunEq R (PySem.W.view R.prog [27]) hk ob 1000 ["__name__", "LimitExceeded", "stepped", "made", "chain_told", "row_told", "rows_told", "course_cost", "MOST_MADE", "grown", "followed", "unfold", "_law_stepped", "_law_made", "_law_path", "_law_content", "_law_place", "_law_letting", "_law_moved", "_law_ground", "_law_counted", "_law_things_right", "_law_moves_right"] w := by
  intro os
  kernel_rfl
theorem facts {P : Program} {w : World} {K : PySem.W.Frag} {h : Heap} {mg : Str → Option Value} {f : Addr} (X : K.In h) (G : h.Ns mainGlobals mg) (hfa : mg ("law" : Str) = some (.ref f)) (c : He.SaysD fa fn K) (hx : ex K = true) :
    ∃ fd : FuncData, (∀ (s : Shared) (v : Value), BindsTo s fd ⟨[v], []⟩ [("_law_script", v)]) ∧ ∀ base : Heap, K.In base → base.Ns mainGlobals mg → FnOk P w K mg base CX0 115 f fd ["_law_script"] (spD ⟨K, w⟩ f_law) := by
  have T : Bt mg := ⟨He.free_ok X G (He.SaysD.facts c (f := .free "max") (by unfold fa; simp)), He.free_ok X G (He.SaysD.facts c (f := .free "min") (by unfold fa; simp)), He.free_ok X G (He.SaysD.facts c (f := .free "sum") (by unfold fa; simp)), He.free_ok X G (He.SaysD.facts c (f := .free "len") (by unfold fa; simp)), He.free_ok X G (He.SaysD.facts c (f := .free "tuple") (by unfold fa; simp)), He.free_ok X G (He.SaysD.facts c (f := .free "list") (by unfold fa; simp)), He.free_ok X G (He.SaysD.facts c (f := .free "enumerate") (by unfold fa; simp)), He.free_ok X G (He.SaysD.facts c (f := .free "range") (by unfold fa; simp)), He.free_ok X G (He.SaysD.facts c (f := .free "abs") (by unfold fa; simp)), He.free_ok X G (He.SaysD.facts c (f := .free "int") (by unfold fa; simp))⟩
  have F_stepped : Fn K mg "stepped" st_stepped ["sizes", "content", "step"] := fn_says X G c _ _ _ (by unfold fn; simp) (by unfold fa; simp) (fun _ _ _ _ _ _ us hl => match us, hl with | [_, _, _], _ => rfl)
  have F_made : Fn K mg "made" st_made ["house", "content", "kind"] := fn_says X G c _ _ _ (by unfold fn; simp) (by unfold fa; simp) (fun _ _ _ _ _ _ us hl => match us, hl with | [_, _, _], _ => rfl)
  have F_chain_told : Fn K mg "chain_told" st_chain_told ["told", "chain"] := fn_says X G c _ _ _ (by unfold fn; simp) (by unfold fa; simp) (fun _ _ _ _ _ _ us hl => match us, hl with | [_, _], _ => rfl)
  have F_row_told : Fn K mg "row_told" st_row_told ["house", "told", "row"] := fn_says X G c _ _ _ (by unfold fn; simp) (by unfold fa; simp) (fun _ _ _ _ _ _ us hl => match us, hl with | [_, _, _], _ => rfl)
  have F_rows_told : Fn K mg "rows_told" st_rows_told ["house", "ledger"] := fn_says X G c _ _ _ (by unfold fn; simp) (by unfold fa; simp) (fun _ _ _ _ _ _ us hl => match us, hl with | [_, _], _ => rfl)
  have F_course_cost : Fn K mg "course_cost" st_course_cost ["house", "rules", "item", "course"] := fn_says X G c _ _ _ (by unfold fn; simp) (by unfold fa; simp) (fun _ _ _ _ _ _ us hl => match us, hl with | [_, _, _, _], _ => rfl)
  have F_grown : Fn K mg "grown" st_grown ["ledger", "index", "first"] := fn_says X G c _ _ _ (by unfold fn; simp) (by unfold fa; simp) (fun _ _ _ _ _ _ us hl => match us, hl with | [_, _, _], _ => rfl)
  have F_followed : Fn K mg "followed" st_followed ["ledger", "chain", "thing", "first"] := fn_says X G c _ _ _ (by unfold fn; simp) (by unfold fa; simp) (fun _ _ _ _ _ _ us hl => match us, hl with | [_, _, _, _], _ => rfl)
  have F_unfold : Fn K mg "unfold" st_unfold ["house", "rules", "item", "course"] := fn_says X G c _ _ _ (by unfold fn; simp) (by unfold fa; simp) (fun _ _ _ _ _ _ us hl => match us, hl with | [_, _, _, _], _ => rfl)
  have F_law_stepped : Fn K mg "_law_stepped" st_law_stepped ["_law_sizes", "_law_cells", "_law_step"] := fn_says X G c _ _ _ (by unfold fn; simp) (by unfold fa; simp) (fun _ _ _ _ _ _ us hl => match us, hl with | [_, _, _], _ => rfl)
  have F_law_made : Fn K mg "_law_made" st_law_made ["_law_house", "_law_content_here", "_law_kind"] := fn_says X G c _ _ _ (by unfold fn; simp) (by unfold fa; simp) (fun _ _ _ _ _ _ us hl => match us, hl with | [_, _, _], _ => rfl)
  have F_law_path : Fn K mg "_law_path" st_law_path ["_law_tree", "_law_thing"] := fn_says X G c _ _ _ (by unfold fn; simp) (by unfold fa; simp) (fun _ _ _ _ _ _ us hl => match us, hl with | [_, _], _ => rfl)
  have F_law_content : Fn K mg "_law_content" st_law_content ["_law_house", "_law_tree", "_law_thing"] := fn_says X G c _ _ _ (by unfold fn; simp) (by unfold fa; simp) (fun _ _ _ _ _ _ us hl => match us, hl with | [_, _, _], _ => rfl)
  have F_law_place : Fn K mg "_law_place" st_law_place ["_law_house", "_law_tree", "_law_target"] := fn_says X G c _ _ _ (by unfold fn; simp) (by unfold fa; simp) (fun _ _ _ _ _ _ us hl => match us, hl with | [_, _, _], _ => rfl)
  have F_law_letting : Fn K mg "_law_letting" st_law_letting ["_law_house", "_law_rules", "_law_tree", "_law_thing", "_law_target"] := fn_says X G c _ _ _ (by unfold fn; simp) (by unfold fa; simp) (fun _ _ _ _ _ _ us hl => match us, hl with | [_, _, _, _, _], _ => rfl)
  have F_law_moved : Fn K mg "_law_moved" st_law_moved ["_law_tree", "_law_thing", "_law_target"] := fn_says X G c _ _ _ (by unfold fn; simp) (by unfold fa; simp) (fun _ _ _ _ _ _ us hl => match us, hl with | [_, _, _], _ => rfl)
  have F_law_ground : Fn K mg "_law_ground" st_law_ground [] := fn_says X G c _ _ _ (by unfold fn; simp) (by unfold fa; simp) (fun _ _ _ _ _ _ us hl => match us, hl with | [], _ => rfl)
  have F_law_counted : Fn K mg "_law_counted" st_law_counted ["_law_course"] := fn_says X G c _ _ _ (by unfold fn; simp) (by unfold fa; simp) (fun _ _ _ _ _ _ us hl => match us, hl with | [_], _ => rfl)
  have F_law_things_right : Fn K mg "_law_things_right" st_law_things_right ["_law_more"] := fn_says X G c _ _ _ (by unfold fn; simp) (by unfold fa; simp) (fun _ _ _ _ _ _ us hl => match us, hl with | [_], _ => rfl)
  have F_law_moves_right : Fn K mg "_law_moves_right" st_law_moves_right [] := fn_says X G c _ _ _ (by unfold fn; simp) (by unfold fa; simp) (fun _ _ _ _ _ _ us hl => match us, hl with | [], _ => rfl)
  have F_law : Fn K mg "law" st_law ["_law_script"] := fn_says X G c _ _ _ (by unfold fn; simp) (by unfold fa; simp) (fun _ _ _ _ _ _ us hl => match us, hl with | [_], _ => rfl)
  have k_MOST_MADE : ∃ u, mg "MOST_MADE" = some u ∧ RelV (.int 200) u := by
    obtain ⟨t, e⟩ := He.int_ok X G (x := "MOST_MADE") (i := 200) (He.SaysD.facts c (by unfold fa; simp))
    exact ⟨_, e, t, rfl⟩
  obtain ⟨hx1, hx2⟩ := He.ba hx
  have hv : PySem.W.findCls K (.type "OverflowError") (.type "type") "__init__" = some (.val (.builtin "OverflowError.__init__")) := by
    split at hx2
    · rename_i n e
      rw [e, beq_iff_eq.mp hx2]
    · cases hx2
  obtain ⟨LC, LI, LT⟩ := limB_ok hx1
  have hOE : mg "OverflowError" = none := He.free_ok X G (He.SaysD.facts c (f := .free "OverflowError") (by unfold fa; simp))
  obtain ⟨fdI, FI⟩ := He.SaysD.defs c (d := mkM "LimitExceeded" "__init__" "LimitExceeded.__init__" st_init) (by unfold fn; simp)
  have FI2 : Fun K "__init__" "LimitExceeded.__init__" st_init _ fdI := fun_says FI
  have all : ∀ base : Heap, Cal P w K mg base 115 "law" ["_law_script"] f_law := fun base => by
    have L : LimF P w K mg base "LimitExceeded" "limit" (He.ga K "LimitExceeded") := ⟨LC, He.glo_ok X G (He.SaysD.facts c (f := .glo "LimitExceeded") (by unfold fa; simp)), _, fdI, LI, LT, init_ok LC hOE FI2 hv, FI2.binds fun _ _ _ _ _ _ us hl => match us, hl with | [_, _], _ => rfl⟩
    have c_stepped := ok_stepped (P := P) (w := w) (base := base) T F_stepped
    have c_made := ok_made (P := P) (w := w) (base := base) T F_made c_stepped
    have c_chain_told := ok_chain_told (P := P) (w := w) (base := base) T F_chain_told
    have c_row_told := ok_row_told (P := P) (w := w) (base := base) T F_row_told c_chain_told c_made
    have c_rows_told := ok_rows_told (P := P) (w := w) (base := base) T F_rows_told c_row_told
    have c_course_cost := ok_course_cost (P := P) (w := w) (base := base) T F_course_cost c_chain_told c_rows_told
    have c_rec := ok_rec (P := P) (w := w) (base := base) T F_grown F_followed 110
    have c_grown : Cal P w K mg base 111 "grown" ["ledger", "index", "first"] f_grown := c_rec.1
    have c_followed : Cal P w K mg base 111 "followed" ["ledger", "chain", "thing", "first"] f_followed := c_rec.2
    have c_unfold := ok_unfold (P := P) (w := w) (base := base) T F_unfold L c_course_cost c_grown c_followed k_MOST_MADE
    have c_law_stepped := ok_law_stepped (P := P) (w := w) (base := base) T F_law_stepped
    have c_law_made := ok_law_made (P := P) (w := w) (base := base) T F_law_made c_law_stepped
    have c_law_path := ok_law_path (P := P) (w := w) (base := base) T F_law_path
    have c_law_content := ok_law_content (P := P) (w := w) (base := base) T F_law_content c_law_path c_law_made
    have c_law_place := ok_law_place (P := P) (w := w) (base := base) T F_law_place c_law_content c_law_made
    have c_law_letting := ok_law_letting (P := P) (w := w) (base := base) T F_law_letting c_law_path c_law_content c_law_place
    have c_law_moved := ok_law_moved (P := P) (w := w) (base := base) T F_law_moved
    have c_law_ground := ok_law_ground (P := P) (w := w) (base := base) T F_law_ground
    have c_law_counted := ok_law_counted (P := P) (w := w) (base := base) T F_law_counted L c_law_ground c_law_letting c_law_moved c_unfold
    have c_law_things_right := ok_law_things_right (P := P) (w := w) (base := base) T F_law_things_right c_law_counted
    have c_law_moves_right := ok_law_moves_right (P := P) (w := w) (base := base) T F_law_moves_right c_law_counted
    have c_law := ok_law (P := P) (w := w) (base := base) T F_law c_law_counted c_law_things_right c_law_moves_right
    exact c_law
  obtain ⟨f0, fd0, F0, e0, b0⟩ := F_law
  have e1 := hfa.symm.trans e0
  cases e1
  refine ⟨fd0, fun s v => ?_, fun base _ _ => ?_⟩
  · obtain ⟨oc, od, kV, doc, pm, an, cdv, ct, osl, e, lk, hc⟩ := F0.ex
    subst e
    exact .of_eq rfl
  · obtain ⟨oc, od, kV, doc, pm, an, cdv, ct, osl, e, lk, hc⟩ := F0.ex
    exact (all base).at e0 lk
end Dn
end

section
set_option maxRecDepth 100000
set_option maxHeartbeats 0
namespace Dn
open PySem PySem.Spec PyProof.Rows L2
theorem reps_ints {B : Kx} {ι : Ix} {H : Hp} : ∀ ns : List Int, Reps B ι H (ns.map V.int) (ns.map PyData.int)
  | [] => .nil
  | a :: t => .cons (.int a) (reps_ints t)
/-- the law's promise from what its mirror answers -/
theorem law_says {K : PySem.W.Frag} {w : World} {φ : List D → M D} {H : Hp} {a : Addr} {ns : List Int} (h : φ [fz (ns.map .int)] [] = some (.bool true, [])) (hS : SqL K H a (ns.map V.int)) :
    spD ⟨K, w⟩ φ [.ref a] H (fun v _ => v = .bl true) (fun _ _ _ => False) := by
  have hz : LAt ⟨K, w⟩ ⟨[], []⟩ H a (ns.map V.int) := by
    rcases hS with h | h
    · exact .inl ⟨h, by simp [Ix.out]⟩
    · exact .inr (.inr h)
  refine ⟨⟨[], []⟩, [], _, _, _, ⟨List.nodup_nil, rfl, fun n a o e _ => by simp at e, fun b hb => by cases hb⟩, .cons (.fz hz (reps_ints ns)) .nil, h, fun v ι' H' _ _ r => ?_⟩
  cases r
  rfl
end Dn
open PySem PySem.W PySem.Calls PyProof.Rows
theorem PySem.Challenge.cw_movedfolders_k55_unfolded_at_the_bound_holds : PySem.Challenge.rw_movedfolders_k55_unfolded_at_the_bound.Holds := by
  w_on; o_law
  refine HandSHeadRun.head_any (r := OpenLaw.row PySem.Challenge.rw_movedfolders_k55_unfolded_at_the_bound) (q := view (OpenLaw.row PySem.Challenge.rw_movedfolders_k55_unfolded_at_the_bound).prog [27]) (H := Dn.hk) (ob := Dn.ob) (M := 1000) (loose := ["__name__", "LimitExceeded", "stepped", "made", "chain_told", "row_told", "rows_told", "course_cost", "MOST_MADE", "grown", "followed", "unfold", "_law_stepped", "_law_made", "_law_path", "_law_content", "_law_place", "_law_letting", "_law_moved", "_law_ground", "_law_counted", "_law_things_right", "_law_moves_right"]) (d := HandSHeadRun.topDef (OpenLaw.row PySem.Challenge.rw_movedfolders_k55_unfolded_at_the_bound).prog 27) (kwd := []) Dn.ob_eq
    (by kernel_rfl) (fun s => by kernel_rfl) Dn.run (by kernel_rfl) (by kernel_rfl) (by kernel_rfl) (by rfl) (by first | assumption | decide +kernel) (by decide +kernel) ⟨rfl, rfl, rfl, rfl, rfl, by decide +kernel⟩ ?hw ?hc
  case hw => w_witness2
  case hc =>
    refine L2.walk_ofE (l := PySem.Challenge.rw_movedfolders_k55_unfolded_at_the_bound) (n := 63) (k := 115) (x := "_law_script") (CX := L2.CX0) rfl (by decide) (by kernel_rfl) ⟨rfl, by decide, by decide⟩ ?F (fun _ _ _ _ z => z)
    intro w mg fa h Y G hmg0
    obtain ⟨K, KX, c⟩ := Y
    have hmg : mg ("law" : PySem.Str) = some (.ref fa) := by
      have e : (HandSHeadRun.topDef (OpenLaw.row PySem.Challenge.rw_movedfolders_k55_unfolded_at_the_bound).prog 27).name = ("law" : PySem.Str) := by kernel_rfl
      rw [← e]
      exact hmg0
    obtain ⟨fd, hb, hF⟩ := Dn.facts (P := (PySem.Challenge.rw_movedfolders_k55_unfolded_at_the_bound).prog) (w := w) KX G hmg c.t.d c.more
    exact ⟨K, fd, _, KX, hb, fun H a ns hl _ hS => Dn.law_says (Dn.law_true ns) hS, hF⟩
end
