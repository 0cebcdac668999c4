import PyProof.Rows.All
import HandS.Comp
import HandS.Exc
import HandS.ExcOwn
import HandS.Words
import HandS.Wide
import HandS.Style
import HandS.Text
import HandS.TupAny
import HandS.TupMul
import HandS.Deep
import HandS.List
import HandS.SortInts
import HandS.IsInst
import HandS.RaiseMore
import HandS.SetFor
import PyProof.ReprRoads
import PyProof.TupleOfSeq
import HandS.ExcValue
import KE.GoesMore
import HandS.Iter
import HandS.Rev
import HandS.Zip
import HandS.RevRange
import HandS.Walk
import KE.GoesEnum
import HandS.Conv
import HandS.WordsExc
import HandS.Ends
import HandS.Flow
import PySem.Challenge.RW_lastpasses_k02_ranks_and_signs
set_option Elab.async false
set_option linter.all false
set_option maxRecDepth 100000
set_option maxHeartbeats 0
-- PyA
/-! PyA: data, the list-heap, the relation to HandS' abstract heap, results, readings of mirrors -/
namespace PyI
open PySem PySem.Spec PyProof.Rows L2

inductive D where
  | non | bl (b : Bool) | int (i : Int) | str (x : Str) | tup (xs : List D) | scr (ns : List Int) | rng (lo hi : Int) | ty (n : String) | ref (n : Nat)
  deriving Inhabited
inductive O where
  | lst (xs : List D) | dic (kvs : List (D × D))
  deriving Inhabited
abbrev DH := List O
abbrev DS := List (Option D)
structure Exn where
  cls : Nat
  fs : List (Str × D)
inductive Res (α : Type) where
  | ok (a : α) (h : DH) | exc (x : Exn) (h : DH) | no
def Res.bind {α β : Type} : Res α → (α → DH → Res β) → Res β
  | .ok a h, f => f a h
  | .exc x h, _ => .exc x h
  | .no, _ => .no
inductive SR where
  | nx (s : DS) (h : DH) | rt (d : D) (h : DH) | bk (s : DS) (h : DH) | ct (s : DS) (h : DH) | ex (x : Exn) (s : DS) (h : DH) | no
def bindS {α : Type} : Res α → DS → (α → DH → SR) → SR
  | .ok a h, _, f => f a h
  | .exc x h, s, _ => .ex x s h
  | .no, _, _ => .no
abbrev ME := DS → DH → Res D
abbrev MT := DS → DH → Res Bool
abbrev MA := DS → DH → Res (List D)
abbrev MS := DS → DH → SR

@[simp] theorem bind_ok {α β : Type} (a : α) (h : DH) (f : α → DH → Res β) : (Res.ok a h).bind f = f a h := rfl
@[simp] theorem bind_exc {α β : Type} (x : Exn) (h : DH) (f : α → DH → Res β) : (Res.exc x h).bind f = .exc x h := rfl
@[simp] theorem bind_no {α β : Type} (f : α → DH → Res β) : (Res.no).bind f = .no := rfl
@[simp] theorem bindS_ok {α : Type} (a : α) (h : DH) (s : DS) (f : α → DH → SR) : bindS (.ok a h) s f = f a h := rfl
@[simp] theorem bindS_exc {α : Type} (x : Exn) (h : DH) (s : DS) (f : α → DH → SR) : bindS (.exc x h) s f = .ex x s h := rfl
@[simp] theorem bindS_no {α : Type} (s : DS) (f : α → DH → SR) : bindS .no s f = .no := rfl

/-- a list that nobody changes -/
def SqF (K : PySem.W.Frag) (H : Hp) (a : Addr) (xs : List V) : Prop :=
  (∃ o, H a = some (.frz o (.lst xs))) ∨
    ∃ (o : Obj) (its : Array Value) (n : Nat), K.lookup a = some o ∧ o.cls = .type "list" ∧ o.dict = none ∧ o.data = .seq its n ∧ its.size ≤ sizeLine ∧ Vals xs its.toList
theorem SqF.l {K : PySem.W.Frag} {H : Hp} {a : Addr} {xs : List V} (h : SqF K H a xs) : SqL K H a xs := by
  rcases h with ⟨o, h⟩ | h
  · exact .inl (.inr ⟨o, h⟩)
  · exact .inr h

mutual
inductive DRel (K : PySem.W.Frag) (io : List Addr) (H : Hp) : V → D → Prop
  | non : DRel K io H .non .non
  | bl (b : Bool) : DRel K io H (.bl b) (.bl b)
  | int (i : Int) : DRel K io H (.int i) (.int i)
  | str (x : Str) : DRel K io H (.str x) (.str x)
  | ty (n : String) : DRel K io H (.ty n) (.ty n)
  | tup {a : Addr} {xs : List V} {ds : List D} : SqT K H a xs → DRels K io H xs ds → DRel K io H (.ref a) (.tup ds)
  | scr {a : Addr} {ns : List Int} : SqF K H a (ns.map V.int) → DRel K io H (.ref a) (.scr ns)
  | rng {a : Addr} {lo hi : Int} : H a = some (.rng lo hi) → DRel K io H (.ref a) (.rng lo hi)
  | ref {a : Addr} {n : Nat} : io[n]? = some a → DRel K io H (.ref a) (.ref n)
inductive DRels (K : PySem.W.Frag) (io : List Addr) (H : Hp) : List V → List D → Prop
  | nil : DRels K io H [] []
  | cons {v : V} {vs : List V} {d : D} {ds : List D} : DRel K io H v d → DRels K io H vs ds → DRels K io H (v :: vs) (d :: ds)
end

structure Step (K : PySem.W.Frag) (io : List Addr) (H : Hp) (jo : List Addr) (H' : Hp) : Prop where
  pre : ∀ (n : Nat) (a : Addr), io[n]? = some a → jo[n]? = some a
  tup : ∀ a xs, SqT K H a xs → SqT K H' a xs
  scr : ∀ a xs, SqF K H a xs → SqF K H' a xs
  rng : ∀ a lo hi, H a = some (.rng lo hi) → H' a = some (.rng lo hi)
  oth : ∀ a o, H a = some o → a ∉ io → H' a = some o
  new : ∀ a, a ∈ jo → a ∈ io ∨ H a = none

section
variable {K : PySem.W.Frag} {io jo ko : List Addr} {H H' H2 : Hp}
theorem Step.refl : Step K io H io H := ⟨fun _ _ h => h, fun _ _ h => h, fun _ _ h => h, fun _ _ _ h => h, fun _ _ h _ => h, fun _ h => .inl h⟩
theorem Step.trans (s : Step K io H jo H') (t : Step K jo H' ko H2) : Step K io H ko H2 where
  pre := fun n a h => t.pre n a (s.pre n a h)
  tup := fun a xs h => t.tup a xs (s.tup a xs h)
  scr := fun a xs h => t.scr a xs (s.scr a xs h)
  rng := fun a lo hi h => t.rng a lo hi (s.rng a lo hi h)
  oth := fun a o h n => t.oth a o (s.oth a o h n) fun m => by
    rcases s.new a m with q | q
    · exact n q
    · rw [h] at q; cases q
  new := fun a m => by
    rcases t.new a m with q | q
    · exact s.new a q
    · by_cases n : a ∈ io
      · exact .inl n
      · refine .inr ?_
        cases e : H a with
        | none => rfl
        | some o => rw [s.oth a o e n] at q; cases q
mutual
theorem DRel.mono (s : Step K io H jo H') : ∀ {v : V} {d : D}, DRel K io H v d → DRel K jo H' v d
  | _, _, .non => .non
  | _, _, .bl b => .bl b
  | _, _, .int i => .int i
  | _, _, .str x => .str x
  | _, _, .ty n => .ty n
  | _, _, .tup h r => .tup (s.tup _ _ h) (DRels.mono s r)
  | _, _, .scr h => .scr (s.scr _ _ h)
  | _, _, .rng h => .rng (s.rng _ _ _ h)
  | _, _, .ref h => .ref (s.pre _ _ h)
theorem DRels.mono (s : Step K io H jo H') : ∀ {vs : List V} {ds : List D}, DRels K io H vs ds → DRels K jo H' vs ds
  | _, _, .nil => .nil
  | _, _, .cons h r => .cons (DRel.mono s h) (DRels.mono s r)
end
theorem DRels.length : ∀ {vs : List V} {ds : List D}, DRels K io H vs ds → vs.length = ds.length
  | _, _, .nil => rfl
  | _, _, .cons _ r => by simp [DRels.length r]
theorem DRels.append : ∀ {vs ws : List V} {ds es : List D}, DRels K io H vs ds → DRels K io H ws es → DRels K io H (vs ++ ws) (ds ++ es)
  | _, _, _, _, .nil, s => s
  | _, _, _, _, .cons h r, s => .cons h (DRels.append r s)
theorem DRels.get : ∀ {vs : List V} {ds : List D} {i : Nat} {d : D}, DRels K io H vs ds → ds[i]? = some d → ∃ v, vs[i]? = some v ∧ DRel K io H v d
  | _, _, _, _, .nil, e => by simp at e
  | _, _, 0, _, .cons h _, e => by simp at e; subst e; exact ⟨_, rfl, h⟩
  | _, _, i + 1, d, .cons _ r, e => by
    obtain ⟨v, h1, h2⟩ := DRels.get (i := i) (d := d) r (by simpa using e)
    exact ⟨v, by simpa using h1, h2⟩
theorem DRels.getV : ∀ {vs : List V} {ds : List D} {i : Nat} {v : V}, DRels K io H vs ds → vs[i]? = some v → ∃ d, ds[i]? = some d ∧ DRel K io H v d
  | _, _, _, _, .nil, e => by simp at e
  | _, _, 0, _, .cons h _, e => by simp at e; subst e; exact ⟨_, rfl, h⟩
  | _, _, i + 1, v, .cons _ r, e => by
    obtain ⟨d, h1, h2⟩ := DRels.getV (i := i) (v := v) r (by simpa using e)
    exact ⟨d, by simpa using h1, h2⟩
theorem DRels.set {v : V} {d : D} (h : DRel K io H v d) : ∀ {vs : List V} {ds : List D} (i : Nat), DRels K io H vs ds → DRels K io H (vs.set i v) (ds.set i d)
  | _, _, _, .nil => .nil
  | _, _, 0, .cons _ t => .cons h t
  | _, _, i + 1, .cons q t => .cons q (DRels.set h i t)
theorem DRels.take : ∀ {vs : List V} {ds : List D} (n : Nat), DRels K io H vs ds → DRels K io H (vs.take n) (ds.take n)
  | _, _, 0, _ => .nil
  | _, _, _ + 1, .nil => .nil
  | _, _, n + 1, .cons r t => .cons r (DRels.take n t)
theorem DRels.drop : ∀ {vs : List V} {ds : List D} (n : Nat), DRels K io H vs ds → DRels K io H (vs.drop n) (ds.drop n)
  | _, _, 0, r => r
  | _, _, _ + 1, .nil => .nil
  | _, _, n + 1, .cons _ t => DRels.drop n t
theorem DRels.rev : ∀ {vs : List V} {ds : List D}, DRels K io H vs ds → DRels K io H vs.reverse ds.reverse
  | _, _, .nil => .nil
  | _, _, .cons r t => by
    rw [List.reverse_cons, List.reverse_cons]
    exact DRels.append (DRels.rev t) (.cons r .nil)
theorem DRels.eraseIdx : ∀ {vs : List V} {ds : List D} (n : Nat), DRels K io H vs ds → DRels K io H (vs.eraseIdx n) (ds.eraseIdx n)
  | _, _, _, .nil => .nil
  | _, _, 0, .cons _ t => t
  | _, _, n + 1, .cons r t => .cons r (DRels.eraseIdx n t)
end

def DKey : Key → D → Prop
  | .inl i, d => d = .int i
  | .inr x, d => d = .str x
def ORel (K : PySem.W.Frag) (io : List Addr) (H : Hp) (a : Addr) : O → Prop
  | .lst ds => ∃ xs, H a = some (.lst xs) ∧ DRels K io H xs ds
  | .dic kvs => ∃ ks, H a = some (.dK ks) ∧ Paired (fun (p : Key × V) (q : D × D) => DKey p.1 q.1 ∧ DRel K io H p.2 q.2) ks kvs
structure R (K : PySem.W.Frag) (io : List Addr) (h : DH) (H : Hp) : Prop where
  len : io.length = h.length
  inj : io.Nodup
  obj : ∀ (n : Nat) (o : O), h[n]? = some o → ∃ a, io[n]? = some a ∧ ORel K io H a o

theorem pairedMono {K : PySem.W.Frag} {io jo : List Addr} {H H' : Hp} (s : Step K io H jo H') : ∀ {ks : List (Key × V)} {kvs : List (D × D)},
    Paired (fun (p : Key × V) (q : D × D) => DKey p.1 q.1 ∧ DRel K io H p.2 q.2) ks kvs → Paired (fun (p : Key × V) (q : D × D) => DKey p.1 q.1 ∧ DRel K jo H' p.2 q.2) ks kvs
  | _, _, .nil => .nil
  | _, _, .cons r t => .cons ⟨r.1, DRel.mono s r.2⟩ (pairedMono s t)
section
variable {K : PySem.W.Frag} {io : List Addr} {h : DH} {H : Hp} {p a : Addr} {o : HO}
theorem ORel.get {x : O} (r : ORel K io H a x) : (∃ xs, H a = some (.lst xs)) ∨ ∃ ks, H a = some (.dK ks) := by
  cases x with
  | lst ds => obtain ⟨xs, e, _⟩ := r; exact .inl ⟨xs, e⟩
  | dic kvs => obtain ⟨ks, e, _⟩ := r; exact .inr ⟨ks, e⟩
theorem ORel.mono {jo : List Addr} {H' : Hp} {x : O} (s : Step K io H jo H') (e : H' a = H a) (r : ORel K io H a x) : ORel K jo H' a x := by
  cases x with
  | lst ds => obtain ⟨xs, q, t⟩ := r; exact ⟨xs, e.trans q, DRels.mono s t⟩
  | dic kvs => obtain ⟨ks, q, t⟩ := r; exact ⟨ks, e.trans q, pairedMono s t⟩
theorem R.at (r : R K io h H) {n : Nat} (e : io[n]? = some a) : ∃ x, h[n]? = some x ∧ ORel K io H a x := by
  have hn : n < io.length := (List.getElem?_eq_some_iff.mp e).1
  have hn' : n < h.length := by rw [← r.len]; exact hn
  obtain ⟨b, e2, q⟩ := r.obj n _ (List.getElem?_eq_getElem hn')
  rw [e] at e2; cases e2
  exact ⟨_, List.getElem?_eq_getElem hn', q⟩
theorem R.isMut (r : R K io h H) (m : a ∈ io) : (∃ xs, H a = some (.lst xs)) ∨ ∃ ks, H a = some (.dK ks) := by
  obtain ⟨n, e⟩ := List.mem_iff_getElem?.mp m
  obtain ⟨x, _, q⟩ := r.at e
  exact q.get
theorem R.fresh (r : R K io h H) (n : H p = none) : p ∉ io := fun m => by
  rcases r.isMut m with ⟨xs, e⟩ | ⟨ks, e⟩ <;> (rw [n] at e; cases e)
theorem Step.put (hp : H p = none) : Step K io H io (upd H p o) where
  pre := fun _ _ h => h
  tup := fun a xs h => by
    rcases h with (h | ⟨u, h⟩) | h
    · exact .inl (.inl (by rw [upd_ne (ne_of_none h hp)]; exact h))
    · exact .inl (.inr ⟨u, by rw [upd_ne (ne_of_none h hp)]; exact h⟩)
    · exact .inr h
  scr := fun a xs h => by
    rcases h with ⟨u, h⟩ | h
    · exact .inl ⟨u, by rw [upd_ne (ne_of_none h hp)]; exact h⟩
    · exact .inr h
  rng := fun a lo hi h => by rw [upd_ne (ne_of_none h hp)]; exact h
  oth := fun a u h _ => by rw [upd_ne (ne_of_none h hp)]; exact h
  new := fun _ m => .inl m
theorem Step.grow (hp : H p = none) (s : Step K io H io (upd H p o)) : Step K io H (io ++ [p]) (upd H p o) where
  pre := fun n a e => by rw [List.getElem?_append_left (List.getElem?_eq_some_iff.mp e).1]; exact e
  tup := s.tup
  scr := s.scr
  rng := s.rng
  oth := s.oth
  new := fun a m => by
    rcases List.mem_append.mp m with q | q
    · exact .inl q
    · rw [List.mem_singleton] at q; subst q; exact .inr hp
theorem R.put (r : R K io h H) (hp : H p = none) : R K io h (upd H p o) := ⟨r.len, r.inj, fun n x e => by
  obtain ⟨b, e2, q⟩ := r.obj n x e
  refine ⟨b, e2, q.mono (Step.put hp) (upd_ne fun z => ?_)⟩
  subst z
  exact r.fresh hp (List.mem_of_getElem? e2)⟩
/-- any heap in which a step leads, the objects of io as they stand -/
theorem R.step {H' : Hp} (r : R K io h H) (s : Step K io H io H') (k : ∀ a, a ∈ io → H' a = H a) : R K io h H' := ⟨r.len, r.inj, fun n x e => by
  obtain ⟨b, e2, q⟩ := r.obj n x e
  exact ⟨b, e2, q.mono s (k b (List.mem_of_getElem? e2))⟩⟩
theorem R.grow {x : O} (r : R K io h H) (hp : H p = none) (q : ORel K (io ++ [p]) (upd H p o) p x) : R K (io ++ [p]) (h ++ [x]) (upd H p o) where
  len := by rw [List.length_append, List.length_append, r.len]; rfl
  inj := by
    rw [List.nodup_append]
    refine ⟨r.inj, by simp, fun a ha b hb => ?_⟩
    rw [List.mem_singleton] at hb
    subst hb
    intro z
    subst z
    exact r.fresh hp ha
  obj := fun n y e => by
    by_cases hn : n < h.length
    · rw [List.getElem?_append_left hn] at e
      obtain ⟨b, e2, t⟩ := r.obj n y e
      refine ⟨b, by rw [List.getElem?_append_left (by rw [r.len]; exact hn)]; exact e2, t.mono (Step.grow hp (Step.put hp)) (upd_ne fun z => ?_)⟩
      subst z
      exact r.fresh hp (List.mem_of_getElem? e2)
    · rw [List.getElem?_append_right (Nat.le_of_not_lt hn)] at e
      have hz : n - h.length = 0 := by
        have := (List.getElem?_eq_some_iff.mp e).1
        simp at this
        omega
      rw [hz] at e
      simp at e
      subst e
      refine ⟨p, ?_, q⟩
      have : n = io.length := by rw [r.len]; omega
      subst this
      simp
/-- a tracked object of io changes -/
theorem Step.write (m : a ∈ io) (hm : (∃ xs, H a = some (.lst xs)) ∨ ∃ ks, H a = some (.dK ks)) : Step K io H io (upd H a o) := by
  have nt : ∀ b u, H b = some u → (∀ xs, u ≠ .lst xs) → (∀ ks, u ≠ .dK ks) → b ≠ a := fun b u e h1 h2 z => by
    subst z
    rcases hm with ⟨xs, q⟩ | ⟨ks, q⟩
    · rw [e] at q; exact h1 xs (Option.some.inj q)
    · rw [e] at q; exact h2 ks (Option.some.inj q)
  exact {
    pre := fun _ _ h => h
    tup := fun b xs h => by
      rcases h with (h | ⟨u, h⟩) | h
      · exact .inl (.inl (by rw [upd_ne (nt b _ h (fun _ z => nomatch z) (fun _ z => nomatch z))]; exact h))
      · exact .inl (.inr ⟨u, by rw [upd_ne (nt b _ h (fun _ z => nomatch z) (fun _ z => nomatch z))]; exact h⟩)
      · exact .inr h
    scr := fun b xs h => by
      rcases h with ⟨u, h⟩ | h
      · exact .inl ⟨u, by rw [upd_ne (nt b _ h (fun _ z => nomatch z) (fun _ z => nomatch z))]; exact h⟩
      · exact .inr h
    rng := fun b lo hi h => by rw [upd_ne (nt b _ h (fun _ z => nomatch z) (fun _ z => nomatch z))]; exact h
    oth := fun b u h n => by rw [upd_ne (fun z => n (by rw [z]; exact m))]; exact h
    new := fun _ q => .inl q }
theorem R.write {n : Nat} {x : O} (r : R K io h H) (e : io[n]? = some a) (q : Step K io H io (upd H a o) → ORel K io (upd H a o) a x) : R K io (h.set n x) (upd H a o) := by
  have m : a ∈ io := List.mem_of_getElem? e
  have s : Step K io H io (upd H a o) := Step.write m (r.isMut m)
  refine ⟨by rw [List.length_set]; exact r.len, r.inj, fun k y ek => ?_⟩
  by_cases hk : n = k
  · subst hk
    have hn : n < h.length := by rw [← r.len]; exact (List.getElem?_eq_some_iff.mp e).1
    rw [List.getElem?_set_self hn] at ek
    cases ek
    exact ⟨a, e, q s⟩
  · rw [List.getElem?_set_ne hk] at ek
    obtain ⟨b, e2, t⟩ := r.obj k y ek
    refine ⟨b, e2, t.mono s (upd_ne fun z => ?_)⟩
    subst z
    exact hk ((List.getElem?_inj (List.getElem?_eq_some_iff.mp e).1 r.inj).mp (e.trans e2.symm))
end
/-- a list object of the mirror's heap -/
theorem R.isLst {K : PySem.W.Frag} {io : List Addr} {h : DH} {H : Hp} (r : R K io h H) {n : Nat} {ds : List D} {v : V} (v1 : DRel K io H v (.ref n)) (e : h[n]? = some (.lst ds)) : ∃ a xs, v = .ref a ∧ io[n]? = some a ∧ H a = some (.lst xs) ∧ DRels K io H xs ds := by
  cases v1 with
  | ref q =>
    obtain ⟨b, e2, xs, hx, rx⟩ := r.obj n _ e
    rw [q] at e2; cases e2
    exact ⟨_, xs, rfl, q, hx, rx⟩

/-! ### the slots -/
structure EnvR (K : PySem.W.Frag) (io : List Addr) (H : Hp) (st : L2.St) (s : DS) : Prop where
  len : st.length = s.length
  get : ∀ (i : Nat) (d : D), s[i]? = some (some d) → ∃ v, st[i]? = some (some v) ∧ DRel K io H v d
section
variable {K : PySem.W.Frag} {io jo : List Addr} {H H' : Hp} {st : L2.St} {s : DS}
theorem EnvR.mono (t : Step K io H jo H') (e : EnvR K io H st s) : EnvR K jo H' st s := ⟨e.len, fun i d h => by
  obtain ⟨v, h1, h2⟩ := e.get i d h
  exact ⟨v, h1, h2.mono t⟩⟩
theorem EnvR.set (e : EnvR K io H st s) {v : V} {d : D} (h : DRel K io H v d) (i : Nat) : EnvR K io H (st.set i (some v)) (s.set i (some d)) := ⟨by simp [e.len], fun j d' hj => by
  by_cases hij : i = j
  · subst hij
    by_cases hl : i < s.length
    · rw [List.getElem?_set_self hl] at hj
      cases hj
      exact ⟨v, List.getElem?_set_self (by rw [e.len]; exact hl), h⟩
    · rw [List.getElem?_eq_none (by simpa using hl)] at hj; cases hj
  · rw [List.getElem?_set_ne hij] at hj
    obtain ⟨u, h1, h2⟩ := e.get j d' hj
    exact ⟨u, by rw [List.getElem?_set_ne hij]; exact h1, h2⟩⟩
theorem EnvR.unset (e : EnvR K io H st s) (i : Nat) : EnvR K io H (st.set i none) (s.set i none) := ⟨by simp [e.len], fun j d' hj => by
  by_cases hij : i = j
  · subst hij
    by_cases hl : i < s.length
    · rw [List.getElem?_set_self hl] at hj; cases hj
    · rw [List.getElem?_eq_none (by simpa using hl)] at hj; cases hj
  · rw [List.getElem?_set_ne hij] at hj
    obtain ⟨u, h1, h2⟩ := e.get j d' hj
    exact ⟨u, by rw [List.getElem?_set_ne hij]; exact h1, h2⟩⟩
end

/-! ### what a result promises -/
structure Zx where
  K : PySem.W.Frag
  Cs : List Addr
  W : WX
def ExR (Z : Zx) (io : List Addr) (H : Hp) (x : Exn) (cls : Value) (dd : Option Addr) : Prop :=
  ∃ C, Z.Cs[x.cls]? = some C ∧ cls = .ref C ∧ ((x.fs = [] ∧ dd = none) ∨ ∃ d vs, dd = some d ∧ d ∉ io ∧ H d = some (.xd vs) ∧ Paired (fun (p : Str × V) (q : Str × D) => p.1 = q.1 ∧ DRel Z.K io H p.2 q.2) vs x.fs)
def PostR (Z : Zx) (io : List Addr) (H : Hp) (st : L2.St) {α β : Type} (rel : List Addr → Hp → β → α → Prop) (r : Res α) (Q : β → Hp → Prop) : Prop :=
  match r with
  | .ok d h' => ∀ v H' jo, Step Z.K io H jo H' → R Z.K jo h' H' → rel jo H' v d → Q v H'
  | .exc x h' => ∀ cls dd H' jo, Step Z.K io H jo H' → R Z.K jo h' H' → ExR Z jo H' x cls dd → Z.W cls dd st H'
  | .no => False
section
variable {Z : Zx} {io jo : List Addr} {H H' : Hp} {st : L2.St} {α β γ δ : Type} {rel : List Addr → Hp → β → α → Prop} {rel1 : List Addr → Hp → δ → γ → Prop}
theorem PostR.imp {r : Res α} {Q Q' : β → Hp → Prop} (p : PostR Z io H st rel r Q) (q : ∀ v H', Q v H' → Q' v H') : PostR Z io H st rel r Q' := by
  cases r with
  | ok d h' => exact fun v H' jo s r1 r2 => q v H' (p v H' jo s r1 r2)
  | exc x h' => exact p
  | no => exact p
theorem PostR.at {r : Res α} {Q : β → Hp → Prop} (s : Step Z.K io H jo H') (p : PostR Z io H st rel r Q) : PostR Z jo H' st rel r Q := by
  cases r with
  | ok d h' => exact fun v H' jo t r1 r2 => p v H' jo (s.trans t) r1 r2
  | exc x h' => exact fun cls dd H' jo t r1 r2 => p cls dd H' jo (s.trans t) r1 r2
  | no => exact p
theorem PostR.bind {r : Res γ} {f : γ → DH → Res α} {Q : β → Hp → Prop} (p : PostR Z io H st rel (r.bind f) Q) :
    PostR Z io H st rel1 r fun v H1 => ∃ jo h1 d, Step Z.K io H jo H1 ∧ R Z.K jo h1 H1 ∧ rel1 jo H1 v d ∧ PostR Z jo H1 st rel (f d h1) Q := by
  cases r with
  | ok d h' => exact fun v H' jo s r1 r2 => ⟨jo, h', d, s, r1, r2, PostR.at s p⟩
  | exc x h' => exact p
  | no => exact p
/-- at the very place -/
theorem PostR.here {d : α} {h' : DH} {Q : β → Hp → Prop} {v : β} (p : PostR Z io H st rel (.ok d h') Q) (r : R Z.K io h' H) (q : rel io H v d) : Q v H := p v H io Step.refl r q
end

def PostS (Z : Zx) (io : List Addr) (H : Hp) (r : SR) (E : Ends) : Prop :=
  match r with
  | .nx s h' => ∀ st H' jo, Step Z.K io H jo H' → R Z.K jo h' H' → EnvR Z.K jo H' st s → E.nx st H'
  | .bk s h' => ∀ st H' jo, Step Z.K io H jo H' → R Z.K jo h' H' → EnvR Z.K jo H' st s → E.bk st H'
  | .ct s h' => ∀ st H' jo, Step Z.K io H jo H' → R Z.K jo h' H' → EnvR Z.K jo H' st s → E.ct st H'
  | .rt d h' => ∀ v H' jo, Step Z.K io H jo H' → R Z.K jo h' H' → DRel Z.K jo H' v d → E.rt v H'
  | .ex x s h' => ∀ cls dd st H' jo, Step Z.K io H jo H' → R Z.K jo h' H' → EnvR Z.K jo H' st s → ExR Z jo H' x cls dd → Z.W cls dd st H'
  | .no => False
section
variable {Z : Zx} {io jo : List Addr} {H H' : Hp} {st : L2.St} {s : DS} {γ δ : Type} {rel1 : List Addr → Hp → δ → γ → Prop}
theorem PostS.at {r : SR} {E : Ends} (t : Step Z.K io H jo H') (p : PostS Z io H r E) : PostS Z jo H' r E := by
  cases r with
  | nx s h' => exact fun st H' jo u r1 r2 => p st H' jo (t.trans u) r1 r2
  | bk s h' => exact fun st H' jo u r1 r2 => p st H' jo (t.trans u) r1 r2
  | ct s h' => exact fun st H' jo u r1 r2 => p st H' jo (t.trans u) r1 r2
  | rt d h' => exact fun v H' jo u r1 r2 => p v H' jo (t.trans u) r1 r2
  | ex x s h' => exact fun cls dd st H' jo u r1 r2 r3 => p cls dd st H' jo (t.trans u) r1 r2 r3
  | no => exact p
theorem PostS.bind {r : Res γ} {f : γ → DH → SR} {E : Ends} (p : PostS Z io H (bindS r s f) E) (e : EnvR Z.K io H st s) :
    PostR Z io H st rel1 r fun v H1 => ∃ jo h1 d, Step Z.K io H jo H1 ∧ R Z.K jo h1 H1 ∧ rel1 jo H1 v d ∧ PostS Z jo H1 (f d h1) E := by
  cases r with
  | ok d h' => exact fun v H' jo s r1 r2 => ⟨jo, h', d, s, r1, r2, PostS.at s p⟩
  | exc x h' => exact fun cls dd H' jo t r1 r2 => p cls dd st H' jo t r1 (e.mono t) r2
  | no => exact p
end

/-! ### readings of mirrors -/
def tM (Z : Zx) (m : ME) : TE := fun st H Q => ∃ io s h, R Z.K io h H ∧ EnvR Z.K io H st s ∧ PostR Z io H st (DRel Z.K) (m s h) Q
def tMT (Z : Zx) (m : MT) : TT := fun st H Q => ∃ io s h, R Z.K io h H ∧ EnvR Z.K io H st s ∧ PostR Z io H st (fun _ _ (b c : Bool) => b = c) (m s h) Q
def tMA (Z : Zx) (m : MA) : TA := fun st H Q => ∃ io s h, R Z.K io h H ∧ EnvR Z.K io H st s ∧ PostR Z io H st (DRels Z.K) (m s h) Q
def tMS (Z : Zx) (m : MS) : TS := fun E st H => ∃ io s h, R Z.K io h H ∧ EnvR Z.K io H st s ∧ PostS Z io H (m s h) E
def spM (K : PySem.W.Frag) (Cs : List Addr) (n : Nat) (F : List D → DH → Res D) : Sp := fun vs H Q E => ∃ io ds h, R K io h H ∧ DRels K io H vs ds ∧ vs.length = n ∧ PostR ⟨K, Cs, fun c d _ H => E c d H⟩ io H [] (DRel K) (F ds h) Q
theorem PE.weak {X : Cx} {e : Expr} {t t' : TE} (h : PE X e t) (w : ∀ st H Q, t' st H Q → t st H Q) : PE X e t' := ⟨fun pins s st H Q I q => h.run pins s st H Q I (w st H Q q)⟩
theorem PT.weak {X : Cx} {e : Expr} {t t' : TT} (h : PT X e t) (w : ∀ st H Q, t' st H Q → t st H Q) : PT X e t' := ⟨fun pins s st H Q I q => h.run pins s st H Q I (w st H Q q)⟩
theorem PA.weak {X : Cx} {e : List Expr} {t t' : TA} (h : PA X e t) (w : ∀ st H Q, t' st H Q → t st H Q) : PA X e t' := ⟨fun pos pins s st H Q I q => h.run pos pins s st H Q I (w st H Q q)⟩
theorem PS.weak {X : Cx} {e : Stmt} {t t' : TS} (h : PS X e t) (w : ∀ E st H, t' E st H → t E st H) : PS X e t' := ⟨fun pins s st H E I q => h.run pins s st H E I (w E st H q)⟩
theorem PSs.weak {X : Cx} {e : List Stmt} {t t' : TS} (h : PSs X e t) (w : ∀ E st H, t' E st H → t E st H) : PSs X e t' := ⟨fun pins s st H E I q => h.run pins s st H E I (w E st H q)⟩
end PyI
-- PyB
/-! PyB: the operators of the mirror, and that they are those of the model -/
namespace PyI
open PySem PySem.Spec PyProof.Rows L2

/-- the data of a value, as the library's == reads it -/
def toPy : Nat → DH → D → Option PyData
  | 0, _, _ => none
  | f + 1, h, d => match d with
    | .non => some .none
    | .bl b => some (.bool b)
    | .int i => some (.int i)
    | .str x => some (.str x)
    | .tup xs => (xs.mapM (toPy f h)).map .tuple
    | .scr ns => some (.list (ns.map .int))
    | .ref n => match h[n]? with
      | some (.lst xs) => (xs.mapM (toPy f h)).map .list
      | _ => none
    | _ => none
/-- a number that no check unfolds (a great literal beside a cast would be counted down one by one) -/
theorem hidEx (n : Int) : ∃ m : Int, m = n := ⟨n, rfl⟩
noncomputable def hid (n : Int) : Int := (hidEx n).choose
theorem hid_eq (n : Int) : hid n = n := (hidEx n).choose_spec
noncomputable def mulOk (i j : Int) : Bool :=
  (decide (-hid 18446744073709551616 < i) && decide (i < hid 18446744073709551616)) || (decide (-hid 18446744073709551616 < j) && decide (j < hid 18446744073709551616)) || decide (i.natAbs.log2 + j.natAbs.log2 < 1000000)
noncomputable def powOk (i j : Int) : Bool := decide (0 ≤ j) && decide (j ≤ hid 1000000) && decide (i.natAbs < 18446744073709551616)
def strMul (x : Str) (n : Int) : Str := ⟨(List.replicate n.toNat x.cps.toList).flatten.toArray⟩
noncomputable def opB (op : Operator) (x y : D) (h : DH) : Res D :=
  match op, x, y with
  | .Add, .int i, .int j => .ok (.int (i + j)) h
  | .Add, .str a, .str b => if a.length + b.length ≤ 16777216 then .ok (.str (a ++ b)) h else .no
  | .Add, .tup a, .tup b => if a.length + b.length ≤ 16777216 then .ok (.tup (a ++ b)) h else .no
  | .Add, .ref m, .ref n => match h[m]?, h[n]? with
    | some (.lst a), some (.lst b) => if a.length + b.length ≤ 16777216 then .ok (.ref h.length) (h ++ [.lst (a ++ b)]) else .no
    | _, _ => .no
  | .Sub, .int i, .int j => .ok (.int (i - j)) h
  | .Mult, .int i, .int j => if mulOk i j then .ok (.int (i * j)) h else .no
  | .Mult, .str a, .int k => if a.length ≤ 1000 ∧ -1000 ≤ k ∧ k ≤ 1000 then .ok (.str (strMul a k)) h else .no
  | .Mult, .tup a, .int k => if a ≠ [] ∧ 2 ≤ k ∧ k ≤ 1000 ∧ a.length ≤ 1000 then .ok (.tup (List.replicate k.toNat a).flatten) h else .no
  | .Mult, .ref m, .int k => match h[m]? with
    | some (.lst a) => if -1000 ≤ k ∧ k ≤ 1000 ∧ a.length ≤ 1000 then .ok (.ref h.length) (h ++ [.lst (List.replicate k.toNat a).flatten]) else .no
    | _ => .no
  | .FloorDiv, .int i, .int j => if 0 < j ∧ j.natAbs.log2 < 9000 then .ok (.int (i / j)) h else .no
  | .Mod, .int i, .int j => if 0 < j then .ok (.int (i % j)) h else .no
  | .Pow, .int i, .int j => if powOk i j then .ok (.int (i ^ j.toNat)) h else .no
  | .LShift, .int i, .int j => if powOk i j then .ok (.int (i * 2 ^ j.toNat)) h else .no
  | .RShift, .int i, .int j => if 0 ≤ j then .ok (.int (i / 2 ^ j.toNat)) h else .no
  | .BitAnd, .int i, .int j => .ok (.int (Builtin.bitAnd i j)) h
  | .BitOr, .int i, .int j => .ok (.int (Builtin.bitOr i j)) h
  | _, _, _ => .no

def ror (r1 r2 : R2) : R2 := fun x y H Q => r1 x y H Q ∨ r2 x y H Q
theorem OpR.ror {X : Cx} {f : Value → Value → Sem Value} {r1 r2 : R2} (h1 : OpR X f r1) (h2 : OpR X f r2) : OpR X f (ror r1 r2) := by
  intro pins s st H x y v u Q I rx ry h
  rcases h with h | h
  · exact h1 pins s st H x y v u Q I rx ry h
  · exact h2 pins s st H x y v u Q I rx ry h
def OpS (Z : Zx) (r : R2) (f : D → D → DH → Res D) : Prop :=
  ∀ io h H st x y dx dy Q, R Z.K io h H → DRel Z.K io H x dx → DRel Z.K io H y dy → PostR Z io H st (DRel Z.K) (f dx dy h) Q → r x y H Q
/-- nothing is asked where nothing is promised -/
def rNo : R2 := fun _ _ _ _ => False
theorem OpR.no {X : Cx} {f : Value → Value → Sem Value} : OpR X f rNo := fun _ _ _ _ _ _ _ _ _ _ _ _ h => False.elim h

section
variable {Z : Zx} {io : List Addr} {h : DH} {H : Hp} {st : L2.St}
theorem newLst {ds : List D} {xs : List V} {Q : VK} (r : R Z.K io h H) (rx : DRels Z.K io H xs ds) (p : PostR Z io H st (DRel Z.K) (.ok (.ref h.length) (h ++ [.lst ds])) Q) {a : Addr} (ha : H a = none) : Q (.ref a) (upd H a (.lst xs)) := by
  have s : Step Z.K io H (io ++ [a]) (upd H a (.lst xs)) := Step.grow ha (Step.put ha)
  refine p _ _ (io ++ [a]) s (r.grow ha ⟨xs, upd_same, DRels.mono s rx⟩) (.ref ?_)
  rw [← r.len]
  simp
theorem newTup {ds : List D} {xs : List V} {Q : VK} (r : R Z.K io h H) (rx : DRels Z.K io H xs ds) (p : PostR Z io H st (DRel Z.K) (.ok (.tup ds) h) Q) {a : Addr} (ha : H a = none) : Q (.ref a) (upd H a (.tup xs)) := by
  have s : Step Z.K io H io (upd H a (.tup xs)) := Step.put ha
  exact p _ _ io s (r.put ha) (.tup (.inl (.inl upd_same)) (DRels.mono s rx))
theorem DRel.tupInv {v : V} {ds : List D} (d : DRel Z.K io H v (.tup ds)) : ∃ a xs, v = .ref a ∧ SqT Z.K H a xs ∧ DRels Z.K io H xs ds := by
  cases d with
  | tup q r => exact ⟨_, _, rfl, q, r⟩
end
def rStrMul : R2 := fun x y H Q => ∃ a k, x = .str a ∧ y = .int k ∧ MulOk a k ∧ Q (.str (Txt.mul a k)) H
theorem op_strMul {X : Cx} : OpR X (binaryOp .Mult) rStrMul := by
  intro pins s st H x y v u Q I rx ry h
  obtain ⟨a, k, rfl, rfl, ok, q⟩ := h
  obtain ⟨t, rfl⟩ := rx
  obtain ⟨t', rfl⟩ := ry
  exact SB.mul ok fun t2 k2 => ⟨.str _, H, I.tok _, ⟨_, rfl⟩, q⟩
theorem foldl_flat (a : Array Nat) : ∀ (n : Nat) (acc : Array Nat), (List.replicate n a).foldl (· ++ ·) acc = acc ++ (List.replicate n a.toList).flatten.toArray
  | 0, acc => by simp
  | n + 1, acc => by
    rw [List.replicate_succ, List.foldl_cons, foldl_flat a n]
    apply Array.ext'
    simp [List.replicate_succ]
theorem strMul_eq (a : Str) (k : Int) : Txt.mul a k = strMul a k := by
  unfold Txt.mul strMul
  by_cases h : k < 1
  · rw [if_pos h]
    have : k.toNat = 0 := by omega
    rw [this]
    rfl
  · rw [if_neg h]
    by_cases h2 : (k == 1 || a.length == 0) = true
    · rw [if_pos h2]
      rw [Bool.or_eq_true] at h2
      rcases h2 with h2 | h2
      · have : k = 1 := by simpa using h2
        subst this
        simp
      · have e : a.cps.size = 0 := by simpa [Str.length] using h2
        have e2 : a.cps = #[] := Array.eq_empty_of_size_eq_zero e
        obtain ⟨c⟩ := a
        simp only at e2
        subst e2
        simp
    · rw [if_neg h2, foldl_flat]
      simp
theorem mulOk_str {a : Str} {k : Int} (h1 : a.length ≤ 1000) (h2 : -1000 ≤ k) (h3 : k ≤ 1000) : MulOk a k := by
  refine ⟨?_, fun h4 h5 => ?_, fun h4 h5 => ?_⟩
  · rw [Bool.or_eq_false_iff]
    constructor <;> (rw [decide_eq_false_iff_not]; omega)
  · have q : (2 ^ 63 - 1 : Int) / 1000 ≤ (2 ^ 63 - 1) / k := by
      apply Int.le_ediv_of_mul_le (by omega)
      have : (2 ^ 63 - 1 : Int) / 1000 * k ≤ (2 ^ 63 - 1 : Int) / 1000 * 1000 := Int.mul_le_mul_of_nonneg_left h3 (by decide)
      have : (2 ^ 63 - 1 : Int) / 1000 * 1000 ≤ 2 ^ 63 - 1 := by decide
      omega
    have : (1000 : Int) ≤ (2 ^ 63 - 1) / 1000 := by decide
    omega
  · have hs := sizeLine_eq
    have : a.length * k.toNat ≤ 1000 * 1000 := Nat.mul_le_mul h1 (by omega)
    unfold Builtin.Str.tooLong
    simp
    omega
theorem DRels.nil_iff {K : PySem.W.Frag} {io : List Addr} {H : Hp} {xs : List V} {ds : List D} (r : DRels K io H xs ds) : xs = [] ↔ ds = [] := by
  cases r <;> simp
theorem DRels.reps {K : PySem.W.Frag} {io : List Addr} {H : Hp} {xs : List V} {ds : List D} (r : DRels K io H xs ds) : ∀ n : Nat, DRels K io H (List.replicate n xs).flatten (List.replicate n ds).flatten
  | 0 => .nil
  | n + 1 => by
    rw [List.replicate_succ, List.replicate_succ, List.flatten_cons, List.flatten_cons]
    exact DRels.append r (DRels.reps r n)

theorem opB_ok (X : Cx) (Z : Zx) (hK : Z.K = X.K) (op : Operator) : ∃ r, OpR X (binaryOp op) r ∧ OpS Z r (opB op) := by
  have hs := sizeLine_eq
  cases op with
  | Add =>
    refine ⟨_, (OpR.ror op_add (OpR.ror op_add_str (OpR.ror op_catA op_cat))), fun io h H st x y dx dy Q r rx ry p => ?_⟩
    rw [← hK]
    cases dx <;> cases dy <;> (try exact False.elim p)
    · cases rx; cases ry; exact .inl ⟨_, _, rfl, rfl, p.here r (.int _)⟩
    · rename_i a b
      cases rx; cases ry
      by_cases c : a.length + b.length ≤ 16777216
      · have p : PostR Z io H st (DRel Z.K) (if a.length + b.length ≤ 16777216 then .ok (.str (a ++ b)) h else .no) Q := p
        rw [if_pos c] at p
        exact .inr (.inl ⟨_, _, rfl, rfl, by omega, p.here r (.str _)⟩)
      · have p : PostR Z io H st (DRel Z.K) (if a.length + b.length ≤ 16777216 then .ok (.str (a ++ b)) h else .no) Q := p
        rw [if_neg c] at p
        exact p.elim
    · rename_i a b
      obtain ⟨u, xs, rfl, q1, r1⟩ := rx.tupInv
      obtain ⟨w, ys, rfl, q2, r2⟩ := ry.tupInv
      have p : PostR Z io H st (DRel Z.K) (if a.length + b.length ≤ 16777216 then .ok (.tup (a ++ b)) h else .no) Q := p
      by_cases c : a.length + b.length ≤ 16777216
      · rw [if_pos c] at p
        refine .inr (.inr (.inl ⟨u, w, xs, ys, rfl, rfl, q1, q2, by rw [r1.length, r2.length]; omega, fun e => ?_, fun _ e => ?_, fun _ _ l hl => newTup r (r1.append r2) p hl⟩))
        · have e' := r1.nil_iff.mp e
          subst e'
          exact p.here r ry
        · have e' := r2.nil_iff.mp e
          subst e'
          rw [List.append_nil] at p
          exact p.here r rx
      · rw [if_neg c] at p
        exact p.elim
    · rename_i m n
      have p : PostR Z io H st (DRel Z.K) (match h[m]?, h[n]? with | some (.lst a), some (.lst b) => if a.length + b.length ≤ 16777216 then .ok (.ref h.length) (h ++ [.lst (a ++ b)]) else .no | _, _ => .no) Q := p
      split at p
      · rename_i a b e1 e2
        obtain ⟨u, xs, rfl, _, q1, r1⟩ := r.isLst rx e1
        obtain ⟨w, ys, rfl, _, q2, r2⟩ := r.isLst ry e2
        by_cases c : a.length + b.length ≤ 16777216
        · rw [if_pos c] at p
          exact .inr (.inr (.inr ⟨u, w, xs, ys, rfl, rfl, q1, q2, by rw [r1.length, r2.length]; omega, fun l hl => newLst r (r1.append r2) p hl⟩))
        · rw [if_neg c] at p
          exact p.elim
      · exact p.elim
  | Sub =>
    refine ⟨_, op_sub, fun io h H st x y dx dy Q r rx ry p => ?_⟩
    cases dx <;> cases dy <;> (try exact False.elim p)
    cases rx; cases ry; exact ⟨_, _, rfl, rfl, p.here r (.int _)⟩
  | Mult =>
    refine ⟨_, OpR.ror op_mul (OpR.ror op_mulW (OpR.ror op_strMul (OpR.ror op_repT op_rep))), fun io h H st x y dx dy Q r rx ry p => ?_⟩
    rw [← hK]
    cases dx <;> cases dy <;> (try exact False.elim p)
    · rename_i i j
      cases rx; cases ry
      have p : PostR Z io H st (DRel Z.K) (if mulOk i j then .ok (.int (i * j)) h else .no) Q := p
      by_cases c : mulOk i j = true
      · rw [if_pos c] at p
        have q := p.here r (.int _)
        unfold mulOk at c
        rw [hid_eq] at c
        rw [Bool.or_eq_true, Bool.or_eq_true, Bool.and_eq_true, Bool.and_eq_true] at c
        simp only [decide_eq_true_eq] at c
        rcases c with (c | c) | c
        · exact .inl ⟨i, j, rfl, rfl, .inl (by omega), q⟩
        · exact .inl ⟨i, j, rfl, rfl, .inr (by omega), q⟩
        · exact .inr (.inl ⟨i, j, rfl, rfl, c, q⟩)
      · rw [if_neg c] at p
        exact p.elim
    · rename_i a k
      cases rx; cases ry
      have p : PostR Z io H st (DRel Z.K) (if a.length ≤ 1000 ∧ -1000 ≤ k ∧ k ≤ 1000 then .ok (.str (strMul a k)) h else .no) Q := p
      by_cases c : a.length ≤ 1000 ∧ -1000 ≤ k ∧ k ≤ 1000
      · rw [if_pos c] at p
        have q := p.here r (.str _)
        exact .inr (.inr (.inl ⟨a, k, rfl, rfl, mulOk_str c.1 c.2.1 c.2.2, by rw [strMul_eq]; exact q⟩))
      · rw [if_neg c] at p
        exact p.elim
    · rename_i a k
      obtain ⟨u, xs, rfl, q1, r1⟩ := rx.tupInv
      cases ry
      have p : PostR Z io H st (DRel Z.K) (if a ≠ [] ∧ 2 ≤ k ∧ k ≤ 1000 ∧ a.length ≤ 1000 then .ok (.tup (List.replicate k.toNat a).flatten) h else .no) Q := p
      by_cases c : a ≠ [] ∧ 2 ≤ k ∧ k ≤ 1000 ∧ a.length ≤ 1000
      · rw [if_pos c] at p
        exact .inr (.inr (.inr (.inl ⟨u, k, xs, rfl, rfl, q1, fun e => c.1 (r1.nil_iff.mp e), c.2.1, c.2.2.1, by rw [r1.length]; exact c.2.2.2, fun l hl => newTup r (r1.reps _) p hl⟩)))
      · rw [if_neg c] at p
        exact p.elim
    · rename_i m k
      cases ry
      have p : PostR Z io H st (DRel Z.K) (match h[m]? with | some (.lst a) => if -1000 ≤ k ∧ k ≤ 1000 ∧ a.length ≤ 1000 then .ok (.ref h.length) (h ++ [.lst (List.replicate k.toNat a).flatten]) else .no | _ => .no) Q := p
      split at p
      · rename_i a e1
        obtain ⟨u, xs, rfl, _, q1, r1⟩ := r.isLst rx e1
        by_cases c : -1000 ≤ k ∧ k ≤ 1000 ∧ a.length ≤ 1000
        · rw [if_pos c] at p
          have z : xs.length * k.toNat ≤ 1000 * 1000 := Nat.mul_le_mul (by rw [r1.length]; exact c.2.2) (by omega)
          exact .inr (.inr (.inr (.inr ⟨u, k, xs, rfl, rfl, q1, by omega, by omega, by omega, fun l hl => newLst r (r1.reps _) p hl⟩)))
        · rw [if_neg c] at p
          exact p.elim
      · exact p.elim
  | FloorDiv =>
    refine ⟨_, op_fdivW, fun io h H st x y dx dy Q r rx ry p => ?_⟩
    cases dx <;> cases dy <;> (try exact False.elim p)
    rename_i i j
    cases rx; cases ry
    have p : PostR Z io H st (DRel Z.K) (if 0 < j ∧ j.natAbs.log2 < 9000 then .ok (.int (i / j)) h else .no) Q := p
    by_cases c : 0 < j ∧ j.natAbs.log2 < 9000
    · rw [if_pos c] at p; exact ⟨i, j, rfl, rfl, c, p.here r (.int _)⟩
    · rw [if_neg c] at p; exact p.elim
  | Mod =>
    refine ⟨_, op_mod, fun io h H st x y dx dy Q r rx ry p => ?_⟩
    cases dx <;> cases dy <;> (try exact False.elim p)
    rename_i i j
    cases rx; cases ry
    have p : PostR Z io H st (DRel Z.K) (if 0 < j then .ok (.int (i % j)) h else .no) Q := p
    by_cases c : 0 < j
    · rw [if_pos c] at p; exact ⟨i, j, rfl, rfl, c, p.here r (.int _)⟩
    · rw [if_neg c] at p; exact p.elim
  | Pow =>
    refine ⟨_, op_pow, fun io h H st x y dx dy Q r rx ry p => ?_⟩
    cases dx <;> cases dy <;> (try exact False.elim p)
    rename_i i j
    cases rx; cases ry
    have p : PostR Z io H st (DRel Z.K) (if powOk i j then .ok (.int (i ^ j.toNat)) h else .no) Q := p
    by_cases c : powOk i j = true
    · rw [if_pos c] at p
      unfold powOk at c
      rw [hid_eq] at c
      rw [Bool.and_eq_true, Bool.and_eq_true] at c
      simp only [decide_eq_true_eq] at c
      exact ⟨i, j, rfl, rfl, ⟨c.1.1, c.1.2, c.2⟩, p.here r (.int _)⟩
    · rw [if_neg c] at p; exact p.elim
  | LShift =>
    refine ⟨_, op_shl, fun io h H st x y dx dy Q r rx ry p => ?_⟩
    cases dx <;> cases dy <;> (try exact False.elim p)
    rename_i i j
    cases rx; cases ry
    have p : PostR Z io H st (DRel Z.K) (if powOk i j then .ok (.int (i * 2 ^ j.toNat)) h else .no) Q := p
    by_cases c : powOk i j = true
    · rw [if_pos c] at p
      unfold powOk at c
      rw [hid_eq] at c
      rw [Bool.and_eq_true, Bool.and_eq_true] at c
      simp only [decide_eq_true_eq] at c
      exact ⟨i, j, rfl, rfl, ⟨c.1.1, c.1.2, c.2⟩, p.here r (.int _)⟩
    · rw [if_neg c] at p; exact p.elim
  | RShift =>
    refine ⟨_, op_shr, fun io h H st x y dx dy Q r rx ry p => ?_⟩
    cases dx <;> cases dy <;> (try exact False.elim p)
    rename_i i j
    cases rx; cases ry
    have p : PostR Z io H st (DRel Z.K) (if 0 ≤ j then .ok (.int (i / 2 ^ j.toNat)) h else .no) Q := p
    by_cases c : 0 ≤ j
    · rw [if_pos c] at p; exact ⟨i, j, rfl, rfl, c, p.here r (.int _)⟩
    · rw [if_neg c] at p; exact p.elim
  | BitAnd =>
    refine ⟨_, op_and, fun io h H st x y dx dy Q r rx ry p => ?_⟩
    cases dx <;> cases dy <;> (try exact False.elim p)
    cases rx; cases ry; exact ⟨_, _, rfl, rfl, p.here r (.int _)⟩
  | BitOr =>
    refine ⟨_, op_or, fun io h H st x y dx dy Q r rx ry p => ?_⟩
    cases dx <;> cases dy <;> (try exact False.elim p)
    cases rx; cases ry; exact ⟨_, _, rfl, rfl, p.here r (.int _)⟩
  | _ => exact ⟨rNo, OpR.no, fun io h H st x y dx dy Q r rx ry p => by cases dx <;> cases dy <;> exact False.elim p⟩
end PyI
-- PyC
/-! PyC: the comparisons of the mirror -/
namespace PyI
open PySem PySem.Spec PyProof.Rows L2

def eqD (h : DH) (x y : D) : Option Bool :=
  match toPy 66 h x, toPy 66 h y with
  | some a, some b => if SeqAt.shaped a && SeqAt.shaped b then some (PyData.eqv a b) else none
  | _, _ => none
def flatD : D → Bool
  | .non | .bl _ | .int _ | .str _ => true
  | _ => false
def eqF : D → D → Bool
  | .non, .non => true
  | .bl a, .bl b => a == b
  | .bl a, .int b => (if a then 1 else 0) == b
  | .int a, .bl b => a == (if b then 1 else 0)
  | .int a, .int b => a == b
  | .str a, .str b => a == b
  | _, _ => false
def inF (x : D) (xs : List D) : Bool := xs.any fun y => eqF y x
def inStr (x y : Str) : Bool := match x.cps.toList with
  | [c] => decide (c ∈ y.cps.toList)
  | _ => !(Builtin.Str.occurrences y x 0 y.length 1).isEmpty
def inD (h : DH) (x y : D) : Option Bool :=
  match x, y with
  | .str a, .str b => some (inStr a b)
  | x, .tup xs => if flatD x && xs.all flatD then some (inF x xs) else none
  | x, .ref n => match h[n]? with
    | some (.lst xs) => if flatD x && xs.all flatD then some (inF x xs) else match toPy 66 h x, toPy 66 h (.ref n) with
      | some a, some (.list ds) => if SeqAt.shaped a && SeqAt.shaped (.list ds) then some (ds.any fun z => PyData.eqv z a) else none
      | _, _ => none
    | _ => none
  | _, _ => none
def isNon : D → Bool
  | .non => true
  | _ => false
def retB (b : Option Bool) (h : DH) : Res D := match b with
  | some b => .ok (.bl b) h
  | none => .no
def opC (op : CmpOp) (x y : D) (h : DH) : Res D :=
  match op with
  | .Lt => match x, y with
    | .int i, .int j => .ok (.bl (decide (i < j))) h
    | .str i, .str j => .ok (.bl (decide (i.cps.toList < j.cps.toList))) h
    | _, _ => .no
  | .LtE => match x, y with
    | .int i, .int j => .ok (.bl (decide (i ≤ j))) h
    | .str i, .str j => .ok (.bl (!decide (j.cps.toList < i.cps.toList))) h
    | _, _ => .no
  | .Gt => match x, y with
    | .int i, .int j => .ok (.bl (decide (j < i))) h
    | .str i, .str j => .ok (.bl (decide (j.cps.toList < i.cps.toList))) h
    | _, _ => .no
  | .GtE => match x, y with
    | .int i, .int j => .ok (.bl (decide (j ≤ i))) h
    | .str i, .str j => .ok (.bl (!decide (i.cps.toList < j.cps.toList))) h
    | _, _ => .no
  | .Is => match x, y with
    | x, .non => .ok (.bl (isNon x)) h
    | .bl a, .bl b => .ok (.bl (decide (a = b))) h
    | _, _ => .no
  | .IsNot => match x, y with
    | x, .non => .ok (.bl (!isNon x)) h
    | .bl a, .bl b => .ok (.bl (!decide (a = b))) h
    | _, _ => .no
  | .Eq => match x, y with
    | .int i, .int j => .ok (.bl (decide (i = j))) h
    | .str i, .str j => .ok (.bl (decide (i = j))) h
    | .bl i, .bl j => .ok (.bl (decide (i = j))) h
    | x, y => retB (eqD h x y) h
  | .NotEq => match x, y with
    | .int i, .int j => .ok (.bl (!decide (i = j))) h
    | .str i, .str j => .ok (.bl (!decide (i = j))) h
    | .bl i, .bl j => .ok (.bl (!decide (i = j))) h
    | x, y => retB ((eqD h x y).map not) h
  | .In => retB (inD h x y) h
  | .NotIn => retB ((inD h x y).map not) h

section
variable {K : PySem.W.Frag} {io : List Addr} {h : DH} {H : Hp}
theorem toPys_ok {f : Nat} (ih : ∀ (d : D) (p : PyData) (v : V), toPy f h d = some p → DRel K io H v d → Dp K H v p) :
    ∀ (ds : List D) (ps : List PyData) (vs : List V), ds.mapM (toPy f h) = some ps → DRels K io H vs ds → DpAll K H vs ps
  | [], ps, vs, e, r => by
    cases r
    simp at e
    subst e
    exact .nil
  | d :: ds, ps, vs, e, r => by
    cases r with
    | cons q r =>
      rw [List.mapM_cons] at e
      cases e1 : toPy f h d with
      | none => rw [e1] at e; simp at e
      | some p =>
        cases e2 : ds.mapM (toPy f h) with
        | none => rw [e1, e2] at e; simp at e
        | some ps' =>
          rw [e1, e2] at e
          simp at e
          subst e
          exact .cons (ih d p _ e1 q) (toPys_ok ih ds ps' _ e2 r)
theorem dpInts : ∀ (ns : List Int), DpAll K H (ns.map V.int) (ns.map .int)
  | [] => .nil
  | n :: ns => .cons (.int n) (dpInts ns)
theorem toPy_ok (r : R K io h H) : ∀ (f : Nat) (d : D) (p : PyData) (v : V), toPy f h d = some p → DRel K io H v d → Dp K H v p
  | 0, _, _, _, e, _ => by simp [toPy] at e
  | f + 1, d, p, v, e, q => by
    have ih := toPys_ok (toPy_ok r f)
    unfold toPy at e
    cases d with
    | non => cases q; simp at e; subst e; exact .non
    | bl b => cases q; simp at e; subst e; exact .bl b
    | int b => cases q; simp at e; subst e; exact .int b
    | str b => cases q; simp at e; subst e; exact .str b
    | tup xs =>
      cases q with
      | tup hs hr =>
        simp only at e
        cases e2 : xs.mapM (toPy f h) with
        | none => rw [e2] at e; simp at e
        | some ps =>
          rw [e2] at e
          simp at e
          subst e
          exact .tup hs (ih _ _ _ e2 hr)
    | scr ns =>
      cases q with
      | scr hs =>
        simp at e
        subst e
        exact .lst hs.l (dpInts ns)
    | ref n =>
      simp only at e
      split at e
      · rename_i xs e1
        obtain ⟨a, ys, rfl, _, hy, ry⟩ := r.isLst q e1
        cases e2 : xs.mapM (toPy f h) with
        | none => rw [e2] at e; simp at e
        | some ps =>
          rw [e2] at e
          simp at e
          subst e
          exact .lst (SqL.of hy) (ih _ _ _ e2 ry)
      · cases e
    | rng lo hi => simp at e
    | ty n => simp at e
theorem flat_of {v : V} {d : D} (q : DRel K io H v d) : flatD d = true → flatV v = true := by
  cases q <;> simp [flatD, flatV]
theorem flats_of : ∀ {vs : List V} {ds : List D}, DRels K io H vs ds → ds.all flatD = true → vs.all flatV = true
  | _, _, .nil, _ => rfl
  | _, _, .cons q r, e => by
    rw [List.all_cons, Bool.and_eq_true] at e
    rw [List.all_cons, flat_of q e.1, flats_of r e.2]
    rfl
theorem eqF_of {v w : V} {d e : D} (q : DRel K io H v d) (r : DRel K io H w e) (f1 : flatD d = true) (f2 : flatD e = true) : eqV v w = eqF d e := by
  cases q <;> cases r <;> first | rfl | (exact absurd f1 (by simp [flatD])) | (exact absurd f2 (by simp [flatD]))
theorem inF_of {w : V} {e : D} (r : DRel K io H w e) (f2 : flatD e = true) : ∀ {vs : List V} {ds : List D}, DRels K io H vs ds → ds.all flatD = true → inV w vs = inF e ds
  | _, _, .nil, _ => rfl
  | _, _, .cons q t, f => by
    rw [List.all_cons, Bool.and_eq_true] at f
    have ih := inF_of r f2 t f.2
    unfold inV inF at ih ⊢
    rw [List.any_cons, List.any_cons, eqF_of q r f.1 f2, ih]
end

theorem op_inStr {X : Cx} : OpR X (compareOp .In) (fun x y H Q => ∃ i j, x = .str i ∧ y = .str j ∧ Q (.bl (inStr i j)) H) := by
  intro pins s st H x y v u Q I rx ry h
  obtain ⟨i, j, rfl, rfl, q⟩ := h
  unfold inStr at q
  split at q
  · rename_i c e
    have e2 : i = ⟨#[c]⟩ := by
      obtain ⟨a⟩ := i
      have : a = #[c] := by simpa using congrArg List.toArray e
      rw [this]
    subst e2
    exact op_in_sign pins s st H _ _ v u Q I rx ry ⟨c, j, rfl, rfl, q⟩
  · exact op_in_str pins s st H _ _ v u Q I rx ry ⟨i, j, rfl, rfl, q⟩
theorem op_notInStr {X : Cx} : OpR X (compareOp .NotIn) (fun x y H Q => ∃ i j, x = .str i ∧ y = .str j ∧ Q (.bl (!inStr i j)) H) := by
  intro pins s st H x y v u Q I rx ry h
  obtain ⟨i, j, rfl, rfl, q⟩ := h
  unfold inStr at q
  split at q
  · rename_i c e
    have e2 : i = ⟨#[c]⟩ := by
      obtain ⟨a⟩ := i
      have : a = #[c] := by simpa using congrArg List.toArray e
      rw [this]
    subst e2
    exact op_notIn_sign pins s st H _ _ v u Q I rx ry ⟨c, j, rfl, rfl, q⟩
  · exact op_notin_str pins s st H _ _ v u Q I rx ry ⟨i, j, rfl, rfl, q⟩
section
variable {Z : Zx} {io : List Addr} {h : DH} {H : Hp} {st : L2.St} {Q : VK}
theorem retB_post {b : Option Bool} (p : PostR Z io H st (DRel Z.K) (retB b h) Q) (r : R Z.K io h H) : ∃ c, b = some c ∧ Q (.bl c) H := by
  cases b with
  | none => exact False.elim p
  | some c => exact ⟨c, rfl, PostR.here (rel := DRel Z.K) p r (.bl c)⟩
theorem eqD_inv {x y : D} {b : Bool} (e : eqD h x y = some b) : ∃ p q, toPy 66 h x = some p ∧ toPy 66 h y = some q ∧ SeqAt.shaped p = true ∧ SeqAt.shaped q = true ∧ b = PyData.eqv p q := by
  unfold eqD at e
  split at e
  · rename_i p q e1 e2
    split at e
    · rename_i c
      rw [Bool.and_eq_true] at c
      exact ⟨p, q, e1, e2, c.1, c.2, (Option.some.inj e).symm⟩
    · cases e
  · cases e
theorem eqD_post {v w : V} {x y : D} {neg : Bool} (r : R Z.K io h H) (rx : DRel Z.K io H v x) (ry : DRel Z.K io H w y)
    (p : PostR Z io H st (DRel Z.K) (retB ((eqD h x y).map fun b => if neg then !b else b) h) Q) :
    ∃ d e, Dp Z.K H v d ∧ Dp Z.K H w e ∧ SeqAt.shaped d = true ∧ SeqAt.shaped e = true ∧ Q (.bl (if neg then !PyData.eqv d e else PyData.eqv d e)) H := by
  obtain ⟨c, hc, q⟩ := retB_post p r
  cases e : eqD h x y with
  | none => rw [e] at hc; cases hc
  | some b =>
    rw [e] at hc
    cases hc
    obtain ⟨p1, p2, e1, e2, s1, s2, rfl⟩ := eqD_inv e
    exact ⟨p1, p2, toPy_ok r 66 x p1 v e1 rx, toPy_ok r 66 y p2 w e2 ry, s1, s2, q⟩
def rInA (K : PySem.W.Frag) (neg : Bool) : R2 := fun x y H Q => (∃ i j, x = .str i ∧ y = .str j ∧ Q (.bl (if neg then !inStr i j else inStr i j)) H) ∨ rIn K neg x y H Q ∨
  ∃ d ds, Dp K H x d ∧ Dp K H y (.list ds) ∧ SeqAt.shaped d = true ∧ SeqAt.shaped (.list ds) = true ∧ Q (.bl (if neg then !(ds.any fun z => PyData.eqv z d) else ds.any fun z => PyData.eqv z d)) H
theorem inD_post {v w : V} {x y : D} {neg : Bool} (r : R Z.K io h H) (rx : DRel Z.K io H v x) (ry : DRel Z.K io H w y)
    (p : PostR Z io H st (DRel Z.K) (retB ((inD h x y).map fun b => if neg then !b else b) h) Q) : rInA Z.K neg v w H Q := by
  obtain ⟨c, hc, q⟩ := retB_post p r
  cases e : inD h x y with
  | none => rw [e] at hc; cases hc
  | some b =>
    rw [e] at hc
    cases hc
    unfold inD at e
    split at e
    · cases rx; cases ry
      cases e
      exact .inl ⟨_, _, rfl, rfl, q⟩
    · rename_i xs _
      split at e
      · rename_i f
        rw [Bool.and_eq_true] at f
        obtain ⟨a, ys, rfl, q1, r1⟩ := ry.tupInv
        cases e
        rw [← inF_of rx f.1 r1 f.2] at q
        exact .inr (.inl ⟨a, ys, rfl, .inr q1, flat_of rx f.1, flats_of r1 f.2, q⟩)
      · cases e
    · rename_i n
      split at e
      · rename_i xs e1
        obtain ⟨a, ys, rfl, _, q1, r1⟩ := r.isLst ry e1
        split at e
        · rename_i f
          rw [Bool.and_eq_true] at f
          cases e
          rw [← inF_of rx f.1 r1 f.2] at q
          exact .inr (.inl ⟨a, ys, rfl, .inl (SqL.of q1), flat_of rx f.1, flats_of r1 f.2, q⟩)
        · split at e
          · rename_i p1 ds e2 e3
            split at e
            · rename_i f
              rw [Bool.and_eq_true] at f
              cases e
              exact .inr (.inr ⟨p1, ds, toPy_ok r 66 x p1 v e2 rx, toPy_ok r 66 (.ref n) _ _ e3 ry, f.1, f.2, q⟩)
            · cases e
          · cases e
      · cases e
    · cases e
end
theorem map_id' {b : Option Bool} : b = b.map fun b => if false = true then !b else b := by cases b <;> rfl
theorem map_not' {b : Option Bool} : b.map not = b.map fun b => if true = true then !b else b := by cases b <;> rfl

theorem opC_ok (X : Cx) (Z : Zx) (hK : Z.K = X.K) (hu : X.A.units + 65 < cLine) (op : CmpOp) : ∃ r, OpR X (compareOp op) r ∧ OpS Z r (opC op) := by
  cases op with
  | Lt =>
    refine ⟨_, OpR.ror op_lt op_lt_str, fun io h H st x y dx dy Q r rx ry p => ?_⟩
    cases dx <;> cases dy <;> (try exact False.elim p) <;> cases rx <;> cases ry
    · exact .inl ⟨_, _, rfl, rfl, p.here r (.bl _)⟩
    · exact .inr ⟨_, _, rfl, rfl, p.here r (.bl _)⟩
  | LtE =>
    refine ⟨_, OpR.ror op_le op_le_str, fun io h H st x y dx dy Q r rx ry p => ?_⟩
    cases dx <;> cases dy <;> (try exact False.elim p) <;> cases rx <;> cases ry
    · exact .inl ⟨_, _, rfl, rfl, p.here r (.bl _)⟩
    · exact .inr ⟨_, _, rfl, rfl, p.here r (.bl _)⟩
  | Gt =>
    refine ⟨_, OpR.ror op_gt op_gt_str, fun io h H st x y dx dy Q r rx ry p => ?_⟩
    cases dx <;> cases dy <;> (try exact False.elim p) <;> cases rx <;> cases ry
    · exact .inl ⟨_, _, rfl, rfl, p.here r (.bl _)⟩
    · exact .inr ⟨_, _, rfl, rfl, p.here r (.bl _)⟩
  | GtE =>
    refine ⟨_, OpR.ror op_ge op_ge_str, fun io h H st x y dx dy Q r rx ry p => ?_⟩
    cases dx <;> cases dy <;> (try exact False.elim p) <;> cases rx <;> cases ry
    · exact .inl ⟨_, _, rfl, rfl, p.here r (.bl _)⟩
    · exact .inr ⟨_, _, rfl, rfl, p.here r (.bl _)⟩
  | Is =>
    refine ⟨_, OpR.ror op_isN op_isBl, fun io h H st x y dx dy Q r rx ry p => ?_⟩
    cases dx <;> cases dy <;> (try exact False.elim p) <;> cases rx <;> cases ry <;> first | exact .inl ⟨rfl, p.here r (.bl _)⟩ | exact .inr ⟨_, _, rfl, rfl, p.here r (.bl _)⟩
  | IsNot =>
    refine ⟨_, OpR.ror op_notN op_notBl, fun io h H st x y dx dy Q r rx ry p => ?_⟩
    cases dx <;> cases dy <;> (try exact False.elim p) <;> cases rx <;> cases ry <;> first | exact .inl ⟨rfl, p.here r (.bl _)⟩ | exact .inr ⟨_, _, rfl, rfl, p.here r (.bl _)⟩
  | Eq =>
    refine ⟨_, OpR.ror op_eq (op_eqD (by omega)), fun io h H st x y dx dy Q r rx ry p => ?_⟩
    rw [← hK]
    have gen : PostR Z io H st (DRel Z.K) (retB (eqD h dx dy) h) Q → ror rEq (rEqD Z.K) x y H Q := fun p => by
      rw [map_id' (b := eqD h dx dy)] at p
      obtain ⟨d, e, h1, h2, h3, h4, q⟩ := eqD_post r rx ry p
      exact .inr ⟨d, e, h1, h2, h3, h4, q⟩
    cases dx with
    | int i =>
      cases dy with
      | int j =>
        cases rx; cases ry
        refine .inl ⟨rfl, ?_⟩
        have q := PostR.here (rel := DRel Z.K) p r (.bl _)
        rw [show decide (V.int i = V.int j) = decide (i = j) by simp]
        exact q
      | _ => exact gen p
    | str i =>
      cases dy with
      | str j =>
        cases rx; cases ry
        refine .inl ⟨rfl, ?_⟩
        have q := PostR.here (rel := DRel Z.K) p r (.bl _)
        rw [show decide (V.str i = V.str j) = decide (i = j) by simp]
        exact q
      | _ => exact gen p
    | bl i =>
      cases dy with
      | bl j =>
        cases rx; cases ry
        refine .inl ⟨rfl, ?_⟩
        have q := PostR.here (rel := DRel Z.K) p r (.bl _)
        rw [show decide (V.bl i = V.bl j) = decide (i = j) by simp]
        exact q
      | _ => exact gen p
    | _ => exact gen p
  | NotEq =>
    refine ⟨_, OpR.ror op_ne (op_neD (by omega)), fun io h H st x y dx dy Q r rx ry p => ?_⟩
    rw [← hK]
    have gen : PostR Z io H st (DRel Z.K) (retB ((eqD h dx dy).map not) h) Q → ror rNe (rNeD Z.K) x y H Q := fun p => by
      rw [map_not' (b := eqD h dx dy)] at p
      obtain ⟨d, e, h1, h2, h3, h4, q⟩ := eqD_post r rx ry p
      exact .inr ⟨d, e, h1, h2, h3, h4, q⟩
    cases dx with
    | int i =>
      cases dy with
      | int j =>
        cases rx; cases ry
        refine .inl ⟨rfl, ?_⟩
        have q := PostR.here (rel := DRel Z.K) p r (.bl _)
        rw [show decide (V.int i = V.int j) = decide (i = j) by simp]
        exact q
      | _ => exact gen p
    | str i =>
      cases dy with
      | str j =>
        cases rx; cases ry
        refine .inl ⟨rfl, ?_⟩
        have q := PostR.here (rel := DRel Z.K) p r (.bl _)
        rw [show decide (V.str i = V.str j) = decide (i = j) by simp]
        exact q
      | _ => exact gen p
    | bl i =>
      cases dy with
      | bl j =>
        cases rx; cases ry
        refine .inl ⟨rfl, ?_⟩
        have q := PostR.here (rel := DRel Z.K) p r (.bl _)
        rw [show decide (V.bl i = V.bl j) = decide (i = j) by simp]
        exact q
      | _ => exact gen p
    | _ => exact gen p
  | In =>
    refine ⟨_, OpR.ror op_inStr (OpR.ror op_in_seq (op_inD hu)), fun io h H st x y dx dy Q r rx ry p => ?_⟩
    rw [← hK]
    have p : PostR Z io H st (DRel Z.K) (retB (inD h dx dy) h) Q := p
    rw [map_id' (b := inD h dx dy)] at p
    rcases inD_post r rx ry p with q | q | ⟨d, ds, h1, h2, h3, h4, q⟩
    · exact .inl q
    · exact .inr (.inl q)
    · exact .inr (.inr ⟨d, ds, h1, h2, h3, h4, q⟩)
  | NotIn =>
    refine ⟨_, OpR.ror op_notInStr (OpR.ror op_notIn_seq (op_notInD hu)), fun io h H st x y dx dy Q r rx ry p => ?_⟩
    rw [← hK]
    have p : PostR Z io H st (DRel Z.K) (retB ((inD h dx dy).map not) h) Q := p
    rw [map_not' (b := inD h dx dy)] at p
    rcases inD_post r rx ry p with q | q | ⟨d, ds, h1, h2, h3, h4, q⟩
    · exact .inl q
    · exact .inr (.inl q)
    · exact .inr (.inr ⟨d, ds, h1, h2, h3, h4, q⟩)
end PyI
-- PyD
/-! PyD: built-in functions -/
namespace PyI
open PySem PySem.Spec PyProof.Rows L2

def listOf (h : DH) : D → Option (List D)
  | .tup xs => some xs
  | .scr ns => some (ns.map .int)
  | .ref n => match h[n]? with
    | some (.lst xs) => some xs
    | _ => none
  | _ => none
def intsOf : List D → Option (List Int)
  | [] => some []
  | .int i :: r => (intsOf r).map (i :: ·)
  | _ => none
def boolsOf : List D → Option (List Bool)
  | [] => some []
  | .bl i :: r => (boolsOf r).map (i :: ·)
  | _ => none
def strsOf : List D → Option (List Str)
  | [] => some []
  | .str i :: r => (strsOf r).map (i :: ·)
  | _ => none
def ins (a : Int) : List Int → List Int
  | [] => [a]
  | b :: l => if a ≤ b then a :: b :: l else b :: ins a l
def isort : List Int → List Int
  | [] => []
  | a :: l => ins a (isort l)
def maxL : List Int → Option Int
  | [] => none
  | a :: l => match maxL l with
    | none => some a
    | some m => some (if a ≤ m then m else a)
def minL : List Int → Option Int
  | [] => none
  | a :: l => match minL l with
    | none => some a
    | some m => some (if m ≤ a then m else a)
inductive Ty where
  | non | bool | int | str | tuple | list | dict
  deriving DecidableEq
def tyStr : Ty → String
  | .non => "NoneType" | .bool => "bool" | .int => "int" | .str => "str" | .tuple => "tuple" | .list => "list" | .dict => "dict"
def tyOf (h : DH) : D → Option Ty
  | .non => some .non
  | .bl _ => some .bool
  | .int _ => some .int
  | .str _ => some .str
  | .tup _ => some .tuple
  | .scr _ => some .list
  | .ref n => match h[n]? with
    | some (.lst _) => some .list
    | some (.dic _) => some .dict
    | _ => none
  | _ => none
def isTy (t : Ty) (n : String) : Option Bool :=
  if n = "int" then some (decide (t = .int) || decide (t = .bool)) else if n = "bool" then some (decide (t = .bool)) else if n = "tuple" then some (decide (t = .tuple))
  else if n = "str" then some (decide (t = .str)) else if n = "list" then some (decide (t = .list)) else if n = "dict" then some (decide (t = .dict)) else none
/- a bound of how long a repr is -/
mutual
def rsz : PyData → Nat
  | .none | .bool _ => 5
  | .int i => if i.natAbs < 1099511627776 then 41 else 1921
  | .str x => 10 * x.length + 2
  | .list xs | .tuple xs => rszs xs + 3
  | .dict _ => 100000000
def rszs : List PyData → Nat
  | [] => 0
  | x :: xs => rsz x + 2 + rszs xs
end
mutual
def cpsOk : PyData → Bool
  | .str x => x.cps.toList.all fun c => decide (c < 4294967296)
  | .list xs | .tuple xs => cpsOks xs
  | .dict _ => false
  | _ => true
def cpsOks : List PyData → Bool
  | [] => true
  | x :: xs => cpsOk x && cpsOks xs
end
inductive Blt where
  | len | abs | max | min | int | divmod | isinst | list | tuple | all | any | sum | sorted | repr | str
  deriving DecidableEq
def bltV : Blt → Value
  | .len => .builtin "len" | .abs => .builtin "abs" | .max => .builtin "max" | .min => .builtin "min" | .int => .type "int" | .divmod => .builtin "divmod" | .isinst => .builtin "isinstance"
  | .list => .type "list" | .tuple => .type "tuple" | .all => .builtin "all" | .any => .builtin "any" | .sum => .builtin "sum" | .sorted => .builtin "sorted" | .repr => .builtin "repr" | .str => .type "str"
def bltOf (x : Str) : Option Blt :=
  if x = "len" then some .len else if x = "abs" then some .abs else if x = "max" then some .max else if x = "min" then some .min else if x = "int" then some .int else if x = "divmod" then some .divmod
  else if x = "isinstance" then some .isinst else if x = "list" then some .list else if x = "tuple" then some .tuple else if x = "all" then some .all else if x = "any" then some .any
  else if x = "sum" then some .sum else if x = "sorted" then some .sorted else if x = "repr" then some .repr else if x = "str" then some .str else none
def isi (h : DH) (x : D) (n : String) : Option Bool := (tyOf h x).bind fun t => isTy t n
def retD (d : Option D) (h : DH) : Res D := match d with
  | some d => .ok d h
  | none => .no
def reprOf (h : DH) (x : D) : Option Str := (toPy 66 h x).bind fun p => if p.showable && SeqAt.shaped p && cpsOk p && decide (rsz p ≤ 1000000) then some p.shown else none
noncomputable def bltF (b : Blt) (xs : List D) (h : DH) : Res D :=
  match b with
  | .len => match xs with
    | [.str a] => if a.length ≤ 16777216 then .ok (.int a.length) h else .no
    | [x] => retD ((listOf h x).map fun l => .int l.length) h
    | _ => .no
  | .abs => match xs with
    | [.int i] => .ok (.int (if i < 0 then -i else i)) h
    | _ => .no
  | .max => match xs with
    | [.int i, .int j] => .ok (.int (if j > i then j else i)) h
    | [.ref n] => retD (((listOf h (.ref n)).bind intsOf).bind maxL |>.map .int) h
    | _ => .no
  | .min => match xs with
    | [.int i, .int j] => .ok (.int (if j < i then j else i)) h
    | [.ref n] => retD (((listOf h (.ref n)).bind intsOf).bind minL |>.map .int) h
    | _ => .no
  | .int => match xs with
    | [.int i] => .ok (.int i) h
    | [.bl k] => .ok (.int (if k then 1 else 0)) h
    | [.str a] => if a.length ≤ 640 then retD ((PySem.intText? a).map .int) h else .no
    | _ => .no
  | .divmod => match xs with
    | [.int i, .int j] => if 0 < j ∧ j < hid 1073741824 then .ok (.tup [.int (i / j), .int (i % j)]) h else .no
    | _ => .no
  | .isinst => match xs with
    | [x, .ty n] => retD ((isi h x n).map .bl) h
    | _ => .no
  | .list => match xs with
    | [x] => match listOf h x with
      | some l => .ok (.ref h.length) (h ++ [.lst l])
      | none => .no
    | _ => .no
  | .tuple => match xs with
    | [x] => retD ((listOf h x).map .tup) h
    | _ => .no
  | .all => match xs with
    | [.ref n] => retD (((listOf h (.ref n)).bind boolsOf).map fun l => .bl (l.all id)) h
    | _ => .no
  | .any => match xs with
    | [.ref n] => retD (((listOf h (.ref n)).bind boolsOf).map fun l => .bl (l.any id)) h
    | _ => .no
  | .sum => match xs with
    | [.ref n] => retD (((listOf h (.ref n)).bind intsOf).map fun l => .int l.sum) h
    | _ => .no
  | .sorted => match xs with
    | [x] => match (listOf h x).bind intsOf with
      | some l => .ok (.ref h.length) (h ++ [.lst ((isort l).map .int)])
      | none => .no
    | _ => .no
  | .repr => match xs with
    | [x] => retD ((reprOf h x).map .str) h
    | _ => .no
  | .str => match xs with
    | [.int i] => if i.natAbs.log2 < 1920 then .ok (.str (toString i)) h else .no
    | [.str a] => .ok (.str a) h
    | _ => .no

/-! ### the mathematics -/
theorem ins_perm (a : Int) : ∀ l : List Int, (ins a l).Perm (a :: l)
  | [] => List.Perm.refl _
  | b :: l => by
    unfold ins
    split
    · exact List.Perm.refl _
    · exact ((ins_perm a l).cons b).trans (List.Perm.swap a b l)
theorem isort_perm : ∀ l : List Int, (isort l).Perm l
  | [] => List.Perm.refl _
  | a :: l => (ins_perm a (isort l)).trans ((isort_perm l).cons a)
theorem ins_pw (a : Int) : ∀ l : List Int, l.Pairwise (· ≤ ·) → (ins a l).Pairwise (· ≤ ·)
  | [], _ => by simp [ins]
  | b :: l, h => by
    rw [List.pairwise_cons] at h
    unfold ins
    split
    · rename_i c
      rw [List.pairwise_cons, List.pairwise_cons]
      refine ⟨fun x hx => ?_, h⟩
      rcases List.mem_cons.mp hx with rfl | hx
      · exact c
      · have := h.1 x hx
        omega
    · rename_i c
      rw [List.pairwise_cons]
      refine ⟨fun x hx => ?_, ins_pw a l h.2⟩
      rcases List.mem_cons.mp ((ins_perm a l).mem_iff.mp hx) with rfl | hx
      · omega
      · exact h.1 x hx
theorem isort_pw : ∀ l : List Int, (isort l).Pairwise (· ≤ ·)
  | [] => List.Pairwise.nil
  | a :: l => ins_pw a _ (isort_pw l)
theorem isort_uniq {l m : List Int} (p : m.Perm l) (s : m.Pairwise (· ≤ ·)) : m = isort l := PySem.W.ksm_same (p.trans (isort_perm l).symm) s (isort_pw l)
theorem maxL_spec : ∀ {l : List Int} {m : Int}, maxL l = some m → m ∈ l ∧ ∀ y ∈ l, y ≤ m
  | [], m, h => by cases h
  | a :: l, m, h => by
    unfold maxL at h
    cases e : maxL l with
    | none =>
      rw [e] at h
      cases h
      cases l with
      | nil => simp
      | cons b t => unfold maxL at e; split at e <;> cases e
    | some k =>
      rw [e] at h
      obtain ⟨h1, h2⟩ := maxL_spec e
      have h := Option.some.inj h
      refine ⟨?_, fun y hy => ?_⟩
      · split at h <;> (subst h; first | exact List.mem_cons_of_mem _ h1 | exact List.mem_cons_self)
      · rcases List.mem_cons.mp hy with rfl | hy
        · split at h <;> omega
        · have := h2 y hy
          split at h <;> omega
theorem minL_spec : ∀ {l : List Int} {m : Int}, minL l = some m → m ∈ l ∧ ∀ y ∈ l, m ≤ y
  | [], m, h => by cases h
  | a :: l, m, h => by
    unfold minL at h
    cases e : minL l with
    | none =>
      rw [e] at h
      cases h
      cases l with
      | nil => simp
      | cons b t => unfold minL at e; split at e <;> cases e
    | some k =>
      rw [e] at h
      obtain ⟨h1, h2⟩ := minL_spec e
      have h := Option.some.inj h
      refine ⟨?_, fun y hy => ?_⟩
      · split at h <;> (subst h; first | exact List.mem_cons_of_mem _ h1 | exact List.mem_cons_self)
      · rcases List.mem_cons.mp hy with rfl | hy
        · split at h <;> omega
        · have := h2 y hy
          split at h <;> omega
section
variable {K : PySem.W.Frag} {io : List Addr} {h : DH} {H : Hp}
theorem intsOf_rel : ∀ {ds : List D} {ns : List Int} {vs : List V}, intsOf ds = some ns → DRels K io H vs ds → vs = ns.map V.int
  | [], ns, vs, e, r => by cases r; cases e; rfl
  | d :: ds, ns, vs, e, r => by
    cases r with
    | cons q r =>
      cases d with
      | int i =>
        cases q
        cases e2 : intsOf ds with
        | none => simp [intsOf, e2] at e
        | some l =>
          simp [intsOf, e2] at e
          subst e
          rw [intsOf_rel e2 r]
          rfl
      | _ => simp [intsOf] at e
theorem boolsOf_rel : ∀ {ds : List D} {ns : List Bool} {vs : List V}, boolsOf ds = some ns → DRels K io H vs ds → vs = ns.map V.bl
  | [], ns, vs, e, r => by cases r; cases e; rfl
  | d :: ds, ns, vs, e, r => by
    cases r with
    | cons q r =>
      cases d with
      | bl i =>
        cases q
        cases e2 : boolsOf ds with
        | none => simp [boolsOf, e2] at e
        | some l =>
          simp [boolsOf, e2] at e
          subst e
          rw [boolsOf_rel e2 r]
          rfl
      | _ => simp [boolsOf] at e
theorem strsOf_rel : ∀ {ds : List D} {ns : List Str} {vs : List V}, strsOf ds = some ns → DRels K io H vs ds → vs = ns.map V.str
  | [], ns, vs, e, r => by cases r; cases e; rfl
  | d :: ds, ns, vs, e, r => by
    cases r with
    | cons q r =>
      cases d with
      | str i =>
        cases q
        cases e2 : strsOf ds with
        | none => simp [strsOf, e2] at e
        | some l =>
          simp [strsOf, e2] at e
          subst e
          rw [strsOf_rel e2 r]
          rfl
      | _ => simp [strsOf] at e
theorem intsRel : ∀ ns : List Int, DRels K io H (ns.map V.int) (ns.map D.int)
  | [] => .nil
  | n :: ns => .cons (.int n) (intsRel ns)
theorem listOf_rel {v : V} {d : D} {ds : List D} (r : R K io h H) (q : DRel K io H v d) (e : listOf h d = some ds) : ∃ p xs, v = .ref p ∧ (SqL K H p xs ∨ SqT K H p xs) ∧ DRels K io H xs ds := by
  cases d with
  | tup xs =>
    cases q with
    | tup hs hr => cases e; exact ⟨_, _, rfl, .inr hs, hr⟩
  | scr ns =>
    cases q with
    | scr hs => cases e; exact ⟨_, _, rfl, .inl hs.l, intsRel ns⟩
  | ref n =>
    unfold listOf at e
    simp only at e
    split at e
    · rename_i xs e1
      cases e
      obtain ⟨a, ys, rfl, _, hy, ry⟩ := r.isLst q e1
      exact ⟨a, ys, rfl, .inl (SqL.of hy), ry⟩
    · cases e
  | _ => cases e
theorem listRef_rel {v : V} {n : Nat} {ds : List D} (r : R K io h H) (q : DRel K io H v (.ref n)) (e : listOf h (.ref n) = some ds) : ∃ p xs, v = .ref p ∧ SqL K H p xs ∧ DRels K io H xs ds := by
  unfold listOf at e
  simp only at e
  split at e
  · rename_i xs e1
    cases e
    obtain ⟨a, ys, rfl, _, hy, ry⟩ := r.isLst q e1
    exact ⟨a, ys, rfl, SqL.of hy, ry⟩
  · cases e
theorem isTy_ok {t : Ty} {n : String} {b : Bool} (e : isTy t n = some b) : kitB (tyStr t) n = some b := by
  unfold isTy at e
  repeat' split at e
  all_goals first | (cases e; done) | skip
  all_goals (subst n; cases e; cases t <;> decide +kernel)
theorem ty_rel {v : V} {d : D} {t : Ty} (r : R K io h H) (q : DRel K io H v d) (e : tyOf h d = some t) : TyX K H v (.type (tyStr t)) := by
  cases d with
  | non => cases q; cases e; exact .base .non
  | bl b => cases q; cases e; exact .base (.bl b)
  | int b => cases q; cases e; exact .base (.int b)
  | str b => cases q; cases e; exact .base (.str b)
  | tup xs =>
    cases q with
    | tup hs hr =>
      cases e
      rcases hs with (hs | ⟨o, hs⟩) | ⟨o, its, n, hk, hc, _⟩
      · exact .base (.tup hs)
      · exact .fTuple hs
      · exact .kTuple hk hc
  | scr ns =>
    cases q with
    | scr hs =>
      cases e
      rcases hs with ⟨o, hs⟩ | ⟨o, its, n, hk, hc, _⟩
      · exact .base (.frz hs)
      · exact .kList hk hc
  | ref n =>
    cases q with
    | ref qa =>
      obtain ⟨x, e1, q1⟩ := r.at qa
      unfold tyOf at e
      simp only [e1] at e
      cases x with
      | lst xs => cases e; obtain ⟨ys, hy, _⟩ := q1; exact .base (.lst hy)
      | dic kvs => cases e; obtain ⟨ys, hy, _⟩ := q1; exact .base (.dK hy)
  | _ => cases e
end
/-! ### the length of a repr -/
theorem tupText_le (ts : List Str) : (tupleText ts).length ≤ piled ts + 3 := by
  have e3 : (((if ts.length == 1 then ",)" else ")" : String) : Str)).length ≤ 2 := by split <;> decide +kernel
  have e1 : ((("(" : String) : Str)).length = 1 := rfl
  unfold tupleText
  rw [strLen_append, strLen_append, e1]
  by_cases h : ts = []
  · subst h
    decide +kernel
  · have := join_length_add ts h
    omega
theorem lstText_le (ts : List Str) : (listText ts).length ≤ piled ts + 3 := by
  unfold listText
  rw [strLen_append]
  have e1 : ((("[" : String) : Str)).length = 1 := rfl
  have e2 : ((("]" : String) : Str)).length = 1 := rfl
  rw [e2]
  cases ts with
  | nil => show ((("[" : String) : Str)).length + 1 ≤ _; rw [e1]; omega
  | cons a l =>
    show (textFrom 1 (("[" : Str) ++ (if 0 > 0 then ", " else "" : String) ++ a) l).length + 1 ≤ _
    rw [textFrom_length_pos _ _ _ (by decide), strLen_append, strLen_append, e1, piled_cons]
    have e3 : ((((if 0 > 0 then ", " else "" : String)) : Str)).length = 0 := rfl
    rw [e3]
    omega
theorem log40 {n : Nat} (h : n < 1099511627776) : n.log2 < 40 := by
  by_cases e : n = 0
  · subst e; decide
  · exact (Nat.log2_lt e).mpr h
mutual
theorem rsz_le : ∀ p : PyData, p.showable = true → cpsOk p = true → p.shown.length ≤ rsz p
  | .none, _, _ => by decide +kernel
  | .bool b, _, _ => by cases b <;> decide +kernel
  | .int i, h, _ => by
    have h' : i.natAbs.log2 < 1920 := by simpa [PyData.showable] using h
    simp only [PyData.shown, rsz]
    have e : ((toString i : String) : Str).length = (toString i).length := PySem.ofString_length _
    by_cases c : i.natAbs < 1099511627776
    · rw [if_pos c]
      have := PySem.int_text_length_le (k := 40) (by decide) (log40 c)
      rw [PySem.ofString_length]
      omega
    · rw [if_neg c]
      have := PySem.int_text_length_le (k := 1920) (by decide) h'
      rw [PySem.ofString_length]
      omega
  | .str x, _, c => by
    simp only [PyData.shown, rsz]
    refine StrLaws.reprText_len x fun k hk => ?_
    have c' : (x.cps.toList.all fun c => decide (c < 4294967296)) = true := by simpa [cpsOk] using c
    have := of_decide_eq_true (List.all_eq_true.mp c' k hk)
    omega
  | .list xs, h, c => by
    simp only [PyData.shown, rsz]
    have h1 := rszs_le xs (by simpa [PyData.showable] using h) (by simpa [cpsOk] using c)
    have h2 := lstText_le (PyData.shownAll xs)
    omega
  | .tuple xs, h, c => by
    simp only [PyData.shown, rsz]
    have h1 := rszs_le xs (by simpa [PyData.showable] using h) (by simpa [cpsOk] using c)
    have h2 := tupText_le (PyData.shownAll xs)
    omega
  | .dict _, _, c => by simp [cpsOk] at c
theorem rszs_le : ∀ xs : List PyData, PyData.showableAll xs = true → cpsOks xs = true → piled (PyData.shownAll xs) ≤ rszs xs
  | [], _, _ => by simp [PyData.shownAll, rszs, piled]
  | x :: xs, h, c => by
    have h' : x.showable = true ∧ PyData.showableAll xs = true := by simpa [PyData.showableAll] using h
    have c' : cpsOk x = true ∧ cpsOks xs = true := by simpa [cpsOks] using c
    have h1 := rsz_le x h'.1 c'.1
    have h2 := rszs_le xs h'.2 c'.2
    simp only [PyData.shownAll, rszs, piled_cons]
    omega
end
end PyI
-- PyE
/-! PyE: the built-in functions are those of the model -/
namespace PyI
open PySem PySem.Spec PyProof.Rows L2

def cor (r1 r2 : List V → Hp → VK → Prop) : List V → Hp → VK → Prop := fun x H Q => r1 x H Q ∨ r2 x H Q
theorem CallR.cor {X : Cx} {f : Value} {r1 r2 : List V → Hp → VK → Prop} (h1 : CallR X f r1) (h2 : CallR X f r2) : CallR X f (cor r1 r2) := by
  intro pins s st H x u Q I rx h
  rcases h with h | h
  · exact h1 pins s st H x u Q I rx h
  · exact h2 pins s st H x u Q I rx h
def CallS (Z : Zx) (r : List V → Hp → VK → Prop) (f : List D → DH → Res D) : Prop :=
  ∀ io h H st vs ds Q, R Z.K io h H → DRels Z.K io H vs ds → PostR Z io H st (DRel Z.K) (f ds h) Q → r vs H Q

section
variable {prog : Program} {w : World} {A : Around} {E : Value → Shared → Prop} {s : Shared}
/-- sorted(t) of ints, t a list or a tuple -/
theorem sorted_seqI {T : String} {o : Obj} {t : Addr} {items : Array Value} {n : Nat} {ns : List Int} {Q : Value → Shared → Prop} (hT : T = "list" ∨ T = "tuple")
    (ho : s.heap.get? t = some o) (hc : o.cls = .type T) (hd : o.data = .seq items n) (hI : IntsAre items.toList ns) (hz : items.size ≤ sizeLine)
    (h : ∀ (h' : Heap) (p : Addr) (out : List Value) (e : Nat), (∀ b u, s.heap.get? b = some u → h'.get? b = some u) → s.heap.get? p = none → IntsAre out (isort ns) → h'.get? p = some { cls := .type "list", data := .seq out.toArray e } → Q (.ref p) { s with heap := h' }) :
    wpAny (model prog w) A (call (.builtin "sorted") [.ref t]) Q E s := by
  refine Calls.call_function_entry kind_sorted plain_sorted entry_sorted (args_sorted1 _) ?_
  unfold Builtin.«sorted»
  refine wpAny_bind (m := checkCount "sorted" 1 1 _) (wpAny_pure ?_)
  have hz' : items.toList.length ≤ sizeLine := by simpa using hz
  refine wpAny_bind (wpAny_collect_seq t hT ho hc hd (fun h1 k1 => ?_) hz)
  refine wpAny_bind (wpAny_newList ?_ hz')
  have hL : (h1.push (seqObj "list" items.toList.toArray 0)).get? h1.objs.size = some (seqObj "list" items.toList.toArray 0) := Heap.get?_push_size _ rfl
  refine wpAny_bind (wpAny_holding (wpAny_call_entry slot_list_sort ⟨_, hL, rfl⟩ entry_list_sort
    (SrtO.list_sort_ord (s := { s with heap := h1.push (seqObj "list" items.toList.toArray 0) }) SrtO.swo_int hL hz' (fun h2 => SrtO.ints_sortable hI h2) fun out a1 a2 => ⟨_, rfl, ?_⟩) (args_list_sort _)))
  obtain ⟨k2, k3, k4⟩ := SrtO.ints_out hI a1 a2
  obtain ⟨e, he⟩ := sortedHeap_at (vs := items.toList) (out := out.toArray) hL
  have hlt : ∀ {b u}, s.heap.get? b = some u → b < h1.objs.size := fun q => Heap.lt_size (k1 _ _ q)
  refine wpAny_pure ⟨_, rfl, h _ h1.objs.size out e (fun b u q => ?_) (by
    cases z : s.heap.get? h1.objs.size with
    | none => rfl
    | some u => exact absurd (hlt z) (Nat.lt_irrefl _)) (by rw [← isort_uniq k3 k4]; exact k2) he⟩
  rw [sortedHeap_old (Nat.ne_of_lt (hlt q)) (by rw [size_push']; exact Nat.lt_succ_of_lt (hlt q))]
  exact Heap.get?_push_of_some _ (k1 _ _ q)
end
section
variable {X : Cx}
def rSortedQ (K : PySem.W.Frag) : List V → Hp → VK → Prop := fun vs H Q => ∃ (a : Addr) (ns : List Int), vs = [V.ref a] ∧ (SqL K H a (ns.map V.int) ∨ SqT K H a (ns.map V.int)) ∧ ∀ p, H p = none → Q (.ref p) (upd H p (.lst ((isort ns).map V.int)))
theorem cr_sortedQ : CallR X (.builtin "sorted") (rSortedQ X.K) := by
  intro pins s st H vs us Q I r h
  obtain ⟨a, ns, rfl, hs, q⟩ := h
  rw [Vals.ref1 r]
  obtain ⟨its, rv, T, o, n, hT, ho, hc, hd, hz⟩ : ∃ its : List Value, Vals (ns.map V.int) its ∧ ∃ T o n, (T = "list" ∨ T = "tuple") ∧ s.heap.get? a = some o ∧ o.cls = .type T ∧ o.data = .seq its.toArray n ∧ (ns.map V.int).length ≤ sizeLine := by
    rcases hs with hs | hs
    · obtain ⟨its, rv, ⟨o, n, ho, hc, _, hd⟩, hz⟩ := I.list hs
      exact ⟨its, rv, "list", o, n, .inl rfl, ho, hc, hd, hz⟩
    · obtain ⟨its, rv, ⟨o, ho, hc, n, hd⟩, hz⟩ := I.tuple hs
      exact ⟨its, rv, "tuple", o, n, .inr rfl, ho, hc, hd, hz⟩
  have hl := rv.length
  rw [List.length_map] at hl hz
  have hi : IntsAre its ns := rv.ints
  refine sorted_seqI hT ho hc hd (by simpa using hi) (by simp; omega) fun h' p out e k hn ho' he => ?_
  have hp : H p = none := I.hok.gone hn
  have hl2 : (isort ns).length = ns.length := (isort_perm ns).length_eq
  exact ⟨.ref p, upd H p (.lst ((isort ns).map V.int)), I.laidN (t' := s.toks) k hn hp ⟨by rw [List.length_map]; omega, out, e, vals_of_ints ho', he⟩, rfl, q p hp⟩
/-- repr of data -/
def rRepr (K : PySem.W.Frag) : List V → Hp → VK → Prop := fun vs H Q => ∃ v p, vs = [v] ∧ Dp K H v p ∧ p.showable = true ∧ SeqAt.shaped p = true ∧ p.shown.length ≤ 16777216 ∧ Q (.str p.shown) H
theorem cr_repr (hg : X.A.guards = some []) (hu : X.A.units + 66 < cLine) : CallR X (.builtin "repr") (rRepr X.K) := by
  intro pins s st H vs us Q I r h
  obtain ⟨v, p, rfl, hd, hs, hp, hz, q⟩ := h
  obtain ⟨u, rfl, ru⟩ := vals1 r
  have hl := sizeLine_eq
  have dep := SeqAt.depth_of_shaped hp
  have nod := PyData.hasDict_of_canLay p (SeqAt.canLay_of_shaped hp)
  cases hd with
  | non => cases ru; exact PySem.P.repr_of_none ⟨.str _, H, I.tok _, ⟨_, rfl⟩, q⟩
  | bl b => cases ru; exact PySem.P.repr_of_bool ⟨.str _, H, I.tok _, ⟨_, rfl⟩, q⟩
  | int i => obtain ⟨t, rfl⟩ := ru; exact PySem.P.repr_of_int (by simpa [PyData.showable] using hs) ⟨.str _, H, I.tok _, ⟨_, rfl⟩, q⟩
  | str x => obtain ⟨t, rfl⟩ := ru; exact PySem.P.repr_of_str ⟨.str _, H, I.tok _, ⟨_, rfl⟩, q⟩ (by simp only [PyData.shown] at hz; omega)
  | lst h1 h2 =>
    obtain ⟨as, rd⟩ := Dp.reads I _ _ _ (.lst h1 h2) ru
    cases ru
    refine repr_of_reads' rd hs (PyData.noDict_hsm nod) hg (by omega) (fun _ _ e => e) (fun h' u tk k => ⟨.str _, H, I.kept (t' := tk) k, ⟨u, rfl⟩, q⟩) (by omega)
  | tup h1 h2 =>
    obtain ⟨as, rd⟩ := Dp.reads I _ _ _ (.tup h1 h2) ru
    cases ru
    refine repr_of_reads' rd hs (PyData.noDict_hsm nod) hg (by omega) (fun _ _ e => e) (fun h' u tk k => ⟨.str _, H, I.kept (t' := tk) k, ⟨u, rfl⟩, q⟩) (by omega)
end

theorem retD_post {Z : Zx} {io : List Addr} {h : DH} {H : Hp} {st : L2.St} {Q : VK} {d : Option D} (p : PostR Z io H st (DRel Z.K) (retD d h) Q) : ∃ c, d = some c ∧ PostR Z io H st (DRel Z.K) (.ok c h) Q := by
  cases d with
  | none => exact False.elim p
  | some c => exact ⟨c, rfl, p⟩
theorem bind_inv {α β : Type} {o : Option α} {f : α → Option β} {b : β} (e : o.bind f = some b) : ∃ a, o = some a ∧ f a = some b := by
  cases o with
  | none => cases e
  | some a => exact ⟨a, rfl, e⟩
theorem map_inv {α β : Type} {o : Option α} {f : α → β} {b : β} (e : o.map f = some b) : ∃ a, o = some a ∧ f a = b := by
  cases o with
  | none => cases e
  | some a => exact ⟨a, rfl, Option.some.inj e⟩

theorem bltF_ok (X : Cx) (Z : Zx) (hK : Z.K = X.K) (hc : X.calm = true) (hg : X.A.guards = some []) (hu : X.A.units + 66 < cLine) (b : Blt) : ∃ r, CallR X (bltV b) r ∧ CallS Z r (bltF b) := by
  have hl := sizeLine_eq
  cases b with
  | len =>
    refine ⟨_, call_len, fun io h H st vs ds Q r rv p => ?_⟩
    rw [← hK]
    dsimp only [bltF] at p
    split at p
    · rename_i a
      cases rv with
      | cons q t =>
        cases q; cases t
        by_cases c : a.length ≤ 16777216
        · rw [if_pos c] at p
          exact ⟨_, a.length, rfl, ⟨by omega, rfl⟩, p.here r (.int _)⟩
        · rw [if_neg c] at p; exact p.elim
    · rename_i x _
      cases rv with
      | cons q t =>
        cases t
        obtain ⟨c, e, p⟩ := retD_post p
        obtain ⟨l, e', rfl⟩ := map_inv e
        replace e := e'
        obtain ⟨a, xs, rfl, hs, rx⟩ := listOf_rel r q e
        have := rx.length
        refine ⟨_, l.length, rfl, ?_, p.here r (.int _)⟩
        rcases hs with hs | hs
        · exact .inl ⟨xs, hs, by rw [rx.length]⟩
        · exact .inr ⟨xs, hs, by rw [rx.length]⟩
    · exact p.elim
  | abs =>
    refine ⟨_, call_abs, fun io h H st vs ds Q r rv p => ?_⟩
    dsimp only [bltF] at p
    split at p
    · cases rv with
      | cons q t => cases q; cases t; exact ⟨_, rfl, p.here r (.int _)⟩
    · exact p.elim
  | max =>
    refine ⟨_, CallR.cor (call_max2 hc) (cr_max hc), fun io h H st vs ds Q r rv p => ?_⟩
    rw [← hK]
    dsimp only [bltF] at p
    split at p
    · cases rv with
      | cons q t =>
        cases q
        cases t with
        | cons q t => cases q; cases t; exact .inl ⟨_, _, rfl, p.here r (.int _)⟩
    · rename_i n
      cases rv with
      | cons q t =>
        cases t
        obtain ⟨c, e, p⟩ := retD_post p
        obtain ⟨m, e', rfl⟩ := map_inv e
        replace e := e'
        obtain ⟨ns, e, e3⟩ := bind_inv e
        obtain ⟨l, e1, e2⟩ := bind_inv e
        obtain ⟨a, xs, rfl, hs, rx⟩ := listRef_rel r q e1
        have hx := intsOf_rel e2 rx
        subst hx
        obtain ⟨m1, m2⟩ := maxL_spec e3
        refine .inr ⟨a, ns, rfl, hs, List.length_pos_of_mem m1, fun k k1 k2 => ?_⟩
        have : k = m := Int.le_antisymm (m2 k k1) (k2 m m1)
        subst this
        exact p.here r (.int _)
    · exact p.elim
  | min =>
    refine ⟨_, CallR.cor (call_min2 hc) (cr_min hc), fun io h H st vs ds Q r rv p => ?_⟩
    rw [← hK]
    dsimp only [bltF] at p
    split at p
    · cases rv with
      | cons q t =>
        cases q
        cases t with
        | cons q t => cases q; cases t; exact .inl ⟨_, _, rfl, p.here r (.int _)⟩
    · rename_i n
      cases rv with
      | cons q t =>
        cases t
        obtain ⟨c, e, p⟩ := retD_post p
        obtain ⟨m, e', rfl⟩ := map_inv e
        replace e := e'
        obtain ⟨ns, e, e3⟩ := bind_inv e
        obtain ⟨l, e1, e2⟩ := bind_inv e
        obtain ⟨a, xs, rfl, hs, rx⟩ := listRef_rel r q e1
        have hx := intsOf_rel e2 rx
        subst hx
        obtain ⟨m1, m2⟩ := minL_spec e3
        refine .inr ⟨a, ns, rfl, hs, List.length_pos_of_mem m1, fun k k1 k2 => ?_⟩
        have : k = m := Int.le_antisymm (k2 m m1) (m2 k k1)
        subst this
        exact p.here r (.int _)
    · exact p.elim
  | int =>
    refine ⟨_, CallR.cor call_int1 call_int_str, fun io h H st vs ds Q r rv p => ?_⟩
    dsimp only [bltF] at p
    split at p
    · cases rv with
      | cons q t => cases q; cases t; exact .inl (.inl ⟨_, rfl, p.here r (.int _)⟩)
    · cases rv with
      | cons q t => cases q; cases t; exact .inl (.inr ⟨_, rfl, p.here r (.int _)⟩)
    · rename_i a
      cases rv with
      | cons q t =>
        cases q; cases t
        by_cases c : a.length ≤ 640
        · rw [if_pos c] at p
          obtain ⟨d, e, p⟩ := retD_post p
          obtain ⟨m, e', rfl⟩ := map_inv e
          replace e := e'
          exact .inr ⟨a, m, rfl, e, c, p.here r (.int _)⟩
        · rw [if_neg c] at p; exact p.elim
    · exact p.elim
  | divmod =>
    refine ⟨_, call_divmod, fun io h H st vs ds Q r rv p => ?_⟩
    dsimp only [bltF] at p
    split at p
    · rename_i i j
      cases rv with
      | cons q t =>
        cases q
        cases t with
        | cons q t =>
          cases q; cases t
          by_cases c : 0 < j ∧ j < hid 1073741824
          · rw [if_pos c] at p
            rw [hid_eq] at c
            exact ⟨i, j, rfl, c, fun l hl => newTup r (.cons (.int _) (.cons (.int _) .nil)) p hl⟩
          · rw [if_neg c] at p; exact p.elim
    · exact p.elim
  | isinst =>
    refine ⟨_, call_isi, fun io h H st vs ds Q r rv p => ?_⟩
    rw [← hK]
    dsimp only [bltF] at p
    split at p
    · rename_i x n
      cases rv with
      | cons q t =>
        cases t with
        | cons q2 t =>
          cases q2; cases t
          obtain ⟨d, e, p⟩ := retD_post p
          obtain ⟨b, e', rfl⟩ := map_inv e
          replace e := e'
          obtain ⟨t, e1, e2⟩ := bind_inv e
          exact ⟨_, _, _, _, b, rfl, .ty n, ty_rel r q e1, kit_ty (isTy_ok e2), p.here r (.bl _)⟩
    · exact p.elim
  | list =>
    refine ⟨_, call_list_of, fun io h H st vs ds Q r rv p => ?_⟩
    rw [← hK]
    dsimp only [bltF] at p
    split at p
    · rename_i x
      cases rv with
      | cons q t =>
        cases t
        split at p
        · rename_i l e
          obtain ⟨a, xs, rfl, hs, rx⟩ := listOf_rel r q e
          exact ⟨a, xs, rfl, hs, fun l hl => newLst r rx p hl⟩
        · exact p.elim
    · exact p.elim
  | tuple =>
    refine ⟨_, call_tuple_of, fun io h H st vs ds Q r rv p => ?_⟩
    rw [← hK]
    dsimp only [bltF] at p
    split at p
    · rename_i x
      cases rv with
      | cons q t =>
        cases t
        obtain ⟨d, e, p⟩ := retD_post p
        obtain ⟨l, e', rfl⟩ := map_inv e
        replace e := e'
        obtain ⟨a, xs, rfl, hs, rx⟩ := listOf_rel r q e
        rcases hs with hs | hs
        · exact ⟨a, xs, rfl, .inl ⟨hs, fun l hl => newTup r rx p hl⟩⟩
        · exact ⟨a, xs, rfl, .inr ⟨hs, p.here r (.tup hs rx)⟩⟩
    · exact p.elim
  | all =>
    refine ⟨_, cr_all hc, fun io h H st vs ds Q r rv p => ?_⟩
    rw [← hK]
    dsimp only [bltF] at p
    split at p
    · rename_i x
      cases rv with
      | cons q t =>
        cases t
        obtain ⟨d, e, p⟩ := retD_post p
        obtain ⟨bs, e', rfl⟩ := map_inv e
        replace e := e'
        obtain ⟨l, e1, e2⟩ := bind_inv e
        obtain ⟨a, xs, rfl, hs, rx⟩ := listRef_rel r q e1
        have hx := boolsOf_rel e2 rx
        subst hx
        exact ⟨a, bs, rfl, hs, p.here r (.bl _)⟩
    · exact p.elim
  | any =>
    refine ⟨_, cr_any hc, fun io h H st vs ds Q r rv p => ?_⟩
    rw [← hK]
    dsimp only [bltF] at p
    split at p
    · rename_i x
      cases rv with
      | cons q t =>
        cases t
        obtain ⟨d, e, p⟩ := retD_post p
        obtain ⟨bs, e', rfl⟩ := map_inv e
        replace e := e'
        obtain ⟨l, e1, e2⟩ := bind_inv e
        obtain ⟨a, xs, rfl, hs, rx⟩ := listRef_rel r q e1
        have hx := boolsOf_rel e2 rx
        subst hx
        exact ⟨a, bs, rfl, hs, p.here r (.bl _)⟩
    · exact p.elim
  | sum =>
    refine ⟨_, cr_sum hc, fun io h H st vs ds Q r rv p => ?_⟩
    rw [← hK]
    dsimp only [bltF] at p
    split at p
    · rename_i x
      cases rv with
      | cons q t =>
        cases t
        obtain ⟨d, e, p⟩ := retD_post p
        obtain ⟨bs, e', rfl⟩ := map_inv e
        replace e := e'
        obtain ⟨l, e1, e2⟩ := bind_inv e
        obtain ⟨a, xs, rfl, hs, rx⟩ := listRef_rel r q e1
        have hx := intsOf_rel e2 rx
        subst hx
        exact ⟨a, bs, rfl, hs, p.here r (.int _)⟩
    · exact p.elim
  | sorted =>
    refine ⟨_, cr_sortedQ, fun io h H st vs ds Q r rv p => ?_⟩
    rw [← hK]
    dsimp only [bltF] at p
    split at p
    · rename_i x
      cases rv with
      | cons q t =>
        cases t
        split at p
        · rename_i ns e
          obtain ⟨l, e1, e2⟩ := bind_inv e
          obtain ⟨a, xs, rfl, hs, rx⟩ := listOf_rel r q e1
          have hx := intsOf_rel e2 rx
          subst hx
          exact ⟨a, ns, rfl, hs, fun l hl => newLst r (intsRel _) p hl⟩
        · exact p.elim
    · exact p.elim
  | repr =>
    refine ⟨_, cr_repr hg hu, fun io h H st vs ds Q r rv p => ?_⟩
    rw [← hK]
    dsimp only [bltF] at p
    split at p
    · rename_i x
      cases rv with
      | cons q t =>
        cases t
        obtain ⟨d, e, p⟩ := retD_post p
        obtain ⟨tx, e', rfl⟩ := map_inv e
        replace e := e'
        obtain ⟨pd, e1, e2⟩ := bind_inv e
        split at e2
        · rename_i c
          cases e2
          simp only [Bool.and_eq_true, decide_eq_true_eq] at c
          obtain ⟨⟨⟨c1, c2⟩, c3⟩, c4⟩ := c
          have := rsz_le pd c1 c3
          exact ⟨_, pd, rfl, toPy_ok r 66 x pd _ e1 q, c1, c2, by omega, p.here r (.str _)⟩
        · cases e2
    · exact p.elim
  | str =>
    refine ⟨_, CallR.cor call_str_int SkE.call_str_str, fun io h H st vs ds Q r rv p => ?_⟩
    dsimp only [bltF] at p
    split at p
    · rename_i i
      cases rv with
      | cons q t =>
        cases q; cases t
        by_cases c : i.natAbs.log2 < 1920
        · rw [if_pos c] at p; exact .inl ⟨i, rfl, c, p.here r (.str _)⟩
        · rw [if_neg c] at p; exact p.elim
    · cases rv with
      | cons q t => cases q; cases t; exact .inr ⟨_, rfl, p.here r (.str _)⟩
    · exact p.elim
end PyI
-- PyF
/-! PyF: subscripts, slices, methods of built-in types -/
namespace PyI
open PySem PySem.Spec PyProof.Rows L2

/-! ### a[i] -/
def opI (x y : D) (h : DH) : Res D :=
  match x, y with
  | .str z, .int i => if z.length ≤ 16777216 then retD ((atI z.cps.toList i).map fun c => .str ⟨#[c]⟩) h else .no
  | x, .int i => retD ((listOf h x).bind fun l => atI l i) h
  | _, _ => .no
theorem atI_rel {K : PySem.W.Frag} {io : List Addr} {H : Hp} {vs : List V} {ds : List D} {i : Int} {d : D} (r : DRels K io H vs ds) (e : atI ds i = some d) : ∃ v, atI vs i = some v ∧ DRel K io H v d := by
  unfold atI at e ⊢
  rw [r.length]
  cases e1 : ixN ds.length i with
  | none => rw [e1] at e; cases e
  | some j =>
    rw [e1] at e
    exact r.get e
theorem opI_ok (X : Cx) (Z : Zx) (hK : Z.K = X.K) : IxR X (rIx X.K) ∧ OpS Z (rIx X.K) opI := by
  have hl := sizeLine_eq
  refine ⟨ix_seq, fun io h H st x y dx dy Q r rx ry p => ?_⟩
  rw [← hK]
  have gen : ∀ i : Int, y = .int i → PostR Z io H st (DRel Z.K) (retD ((listOf h dx).bind fun l => atI l i) h) Q → rIx Z.K x y H Q := fun i ey p => by
    subst ey
    obtain ⟨c, e, p⟩ := retD_post p
    obtain ⟨l, e1, e2⟩ := bind_inv e
    obtain ⟨a, xs, rfl, hs, rl⟩ := listOf_rel r rx e1
    obtain ⟨v, h1, h2⟩ := atI_rel rl e2
    rcases hs with hs | hs
    · exact .inl ⟨a, xs, i, v, rfl, rfl, hs, h1, p.here r h2⟩
    · exact .inr (.inl ⟨a, xs, i, v, rfl, rfl, hs, h1, p.here r h2⟩)
  cases dy with
  | int i =>
    cases ry
    cases dx with
    | str z =>
      cases rx
      have p : PostR Z io H st (DRel Z.K) (if z.length ≤ 16777216 then retD ((atI z.cps.toList i).map fun c => .str ⟨#[c]⟩) h else .no) Q := p
      by_cases c : z.length ≤ 16777216
      · rw [if_pos c] at p
        obtain ⟨d, e, p⟩ := retD_post p
        obtain ⟨k, e', rfl⟩ := map_inv e
        exact .inr (.inr ⟨z, i, k, rfl, rfl, by omega, e', p.here r (.str _)⟩)
      · rw [if_neg c] at p; exact p.elim
    | _ => exact gen i rfl p
  | _ => cases dx <;> exact p.elim

/-! ### a[lo:hi] -/
def cutL {α : Type} (xs : List α) (lo hi : Option Int) : List α := (xs.drop (HT.sIx xs.length 0 lo)).take (HT.sIx xs.length xs.length hi - HT.sIx xs.length 0 lo)
def opSl (x : D) (lo hi : Option Int) (h : DH) : Res D :=
  match x with
  | .str z => if z.length ≤ 16777216 then .ok (.str ⟨(cutL z.cps.toList lo hi).toArray⟩) h else .no
  | .tup xs => .ok (.tup (cutL xs lo hi)) h
  | x => match listOf h x with
    | some l => .ok (.ref h.length) (h ++ [.lst (cutL l lo hi)])
    | none => .no
def rSlAny (K : PySem.W.Frag) : V → Option Int → Option Int → Hp → VK → Prop := fun x lo hi H Q => rSlL K x lo hi H Q ∨ rSlA K x lo hi H Q ∨ rSlS x lo hi H Q
theorem sl_any {X : Cx} : SlR X (rSlAny X.K) := sl_list.or (sl_tupA.or sl_str)
theorem cut_rel {K : PySem.W.Frag} {io : List Addr} {H : Hp} {vs : List V} {ds : List D} (r : DRels K io H vs ds) (lo hi : Option Int) : DRels K io H (cutV vs lo hi) (cutL ds lo hi) := by
  unfold cutV cutL
  rw [r.length]
  exact (r.drop _).take _
theorem cutL_all {α : Type} {xs : List α} {lo hi : Option Int} (h1 : HT.sIx xs.length 0 lo = 0) (h2 : HT.sIx xs.length xs.length hi = xs.length) : cutL xs lo hi = xs := by
  unfold cutL
  rw [h1, h2]
  simp
theorem listOf_sql {K : PySem.W.Frag} {io : List Addr} {h : DH} {H : Hp} {v : V} {d : D} {ds : List D} (r : R K io h H) (q : DRel K io H v d) (nt : ∀ xs, d ≠ .tup xs) (e : listOf h d = some ds) : ∃ p xs, v = .ref p ∧ SqL K H p xs ∧ DRels K io H xs ds := by
  cases d with
  | tup xs => exact absurd rfl (nt xs)
  | ref n => exact listRef_rel r q e
  | scr ns =>
    cases q with
    | scr hf => cases e; exact ⟨_, _, rfl, hf.l, intsRel ns⟩
  | _ => cases e
theorem opSl_ok (Z : Zx) {io : List Addr} {h : DH} {H : Hp} {st : L2.St} {x : V} {dx : D} {lo hi : Option Int} {Q : VK} (r : R Z.K io h H) (rx : DRel Z.K io H x dx) (p : PostR Z io H st (DRel Z.K) (opSl dx lo hi h) Q) : rSlAny Z.K x lo hi H Q := by
  have hl := sizeLine_eq
  have gen : (∀ xs, dx ≠ .tup xs) → PostR Z io H st (DRel Z.K) (match listOf h dx with | some l => .ok (.ref h.length) (h ++ [.lst (cutL l lo hi)]) | none => .no) Q → rSlAny Z.K x lo hi H Q := fun nt p => by
    split at p
    · rename_i l e
      obtain ⟨a, xs, rfl, hs, rl⟩ := listOf_sql r rx nt e
      exact .inl ⟨a, xs, rfl, hs, fun q hq => newLst r (cut_rel rl lo hi) p hq⟩
    · exact p.elim
  cases dx with
  | str z =>
    cases rx
    have p : PostR Z io H st (DRel Z.K) (if z.length ≤ 16777216 then .ok (.str ⟨(cutL z.cps.toList lo hi).toArray⟩) h else .no) Q := p
    by_cases c : z.length ≤ 16777216
    · rw [if_pos c] at p
      refine .inr (.inr ⟨z, rfl, by omega, ?_⟩)
      have e : cutS z lo hi = ⟨(cutL z.cps.toList lo hi).toArray⟩ := by
        unfold cutS cutL
        simp [Str.length]
      rw [e]
      exact p.here r (.str _)
    · rw [if_neg c] at p; exact p.elim
  | tup xs =>
    obtain ⟨a, ys, rfl, hs, rl⟩ := rx.tupInv
    refine .inr (.inl ⟨a, ys, rfl, hs, fun c => ?_, fun _ q hq => newTup r (cut_rel rl lo hi) p hq⟩)
    have c1 := c.1
    have c2 := c.2
    rw [rl.length] at c1 c2
    have p : PostR Z io H st (DRel Z.K) (.ok (.tup (cutL xs lo hi)) h) Q := p
    rw [cutL_all c1 c2] at p
    exact p.here r (.tup hs rl)
  | _ => exact gen (fun _ z => nomatch z) p

/-! ### methods -/
structure MOk (X : Cx) (name : Str) (T id : String) (r : V → List V → Hp → VK → Prop) : Prop where
  pa : PlainAttrs T
  slot : Slot T name id
  ty : typeOf (.builtin id) = pure (.type "method_descriptor")
  rule : MtR X id r
def isStar : Expr → Bool
  | .Starred _ _ => true
  | _ => false
def noStars (es : List Expr) : Bool := es.all fun e => !isStar e
theorem starEach_cons {e : Expr} {es : List Expr} {env : Env} (h : isStar e = false) : starEach (e :: es) env = (false, eval e env) :: starEach es env := by
  cases e <;> first | rfl | cases h
theorem noStars_trees {es : List Expr} {env : Env} {pos : Pos} (h : noStars es = true) : (backTo pos (starEach es env)).any (·.1) = false ∧ (backTo pos (starEach es env)).all (fun x => !x.1) = true := by
  induction es with
  | nil => exact ⟨rfl, rfl⟩
  | cons e es ih =>
    unfold noStars at h ih
    rw [List.all_cons, Bool.and_eq_true] at h
    obtain ⟨h1, h2⟩ := ih h.2
    have h0 : isStar e = false := by simpa using h.1
    rw [starEach_cons h0]
    unfold backTo at h1 h2 ⊢
    rw [List.map_cons, List.any_cons, List.all_cons, h1, h2]
    exact ⟨rfl, rfl⟩
/-- an expression whose attribute is looked up plainly -/
def plainBase : Expr → Bool
  | .Call (.Name _ _) [] [] _ => false
  | _ => true
theorem plainBase_ok {o : Expr} {name : Str} {env : Env} (h : plainBase o = true) : attributeBase o name env (eval o env) = eval o env := by
  unfold attributeBase
  split
  · cases h
  · rfl
def tMeth' (X : Cx) (name : Str) (to : TE) (t : TA) : TE := fun st H Q => to st H fun x H1 => ∃ T id r, MOk X name T id r ∧ tyV X.K T x H1 ∧ t st H1 fun xs H2 => r x xs H2 Q
def tMeth0' (X : Cx) (name : Str) (to : TE) : TE := fun st H Q => to st H fun x H1 => ∃ T id r, MOk X name T id r ∧ tyV X.K T x H1 ∧ r x [] H1 Q
theorem pe_method0 {X : Cx} {o : Expr} {to : TE} {name : Str} {apos cpos : Pos} (ho : PE X o to) (hb : plainBase o = true) (hline : (apos.endLine == cpos.line) = true) :
    PE X (.Call (.Attribute o name apos) [] [] cpos) (tMeth0' X name to) := by
  refine ⟨fun pins s st H Q I h => ?_⟩
  refine wpAny_Call_method0_late (plainBase_ok hb) hline (thn (ho.run pins s st H _ I h) fun v s1 hv => ?_)
  obtain ⟨x, H1, I1, r1, T, id, r, M, ty, q1⟩ := hv
  obtain ⟨h1, h2⟩ := tyV_is I1 r1 ty
  exact ⟨T, id, M.pa, M.slot, M.ty, h1, h2, Calls.callWith_builtin rfl (PySem.evalArgs_none (M.rule pins s1 st H1 x [] v [] Q I1 r1 .nil q1))⟩
theorem pe_method {X : Cx} {o e : Expr} {es : List Expr} {to : TE} {t : TA} {name : Str} {apos cpos : Pos} (ho : PE X o to) (ha : PA X (e :: es) t) (hb : plainBase o = true) (hs : noStars (e :: es) = true) (hn : (e :: es).length < 29) (hline : (apos.endLine == cpos.line) = true) :
    PE X (.Call (.Attribute o name apos) (e :: es) [] cpos) (tMeth' X name to t) := by
  refine ⟨fun pins s st H Q I h => ?_⟩
  obtain ⟨n1, n2⟩ := noStars_trees (env := X.env) (pos := cpos) hs
  refine wpAny_Call_method_late (plainBase_ok hb) ?_ hline rfl (thn (ho.run pins s st H _ I h) fun v s1 hv => ?_)
  · rw [n2]
    show (true && true && decide ((e :: es).length + 0 + 0 < 30)) = true
    simp only [Bool.true_and, decide_eq_true_eq]
    omega
  · obtain ⟨x, H1, I1, r1, T, id, r, M, ty, q1⟩ := hv
    obtain ⟨h1, h2⟩ := tyV_is I1 r1 ty
    refine ⟨T, id, M.pa, M.slot, M.ty, h1, h2, ?_⟩
    have hA := ha.run cpos pins s1 st H1 _ I1 q1
    have h0 : isStar e = false := by
      unfold noStars at hs
      rw [List.all_cons, Bool.and_eq_true] at hs
      simpa using hs.1
    rw [starEach_cons h0] at hA n1 ⊢
    refine Calls.callWith_builtin n1 (Calls.evalArgs_plain ?_)
    exact thn hA fun us s2 ⟨vs, H2, I2, r2, q2⟩ => M.rule pins s2 st H2 x vs v us Q I2 r1 r2 q2

def lset (h : DH) (n : Nat) (xs : List D) : DH := h.set n (.lst xs)
def idxF (y : D) : List D → Option Nat
  | [] => none
  | x :: xs => if eqF x y then some 0 else (idxF y xs).map (· + 1)
inductive Mth where
  | append | extend | pop | lindex | lcount | scount | join | startswith | endswith | split
def mthOf (nm : Str) (x : D) (h : DH) : Option Mth :=
  match x with
  | .str _ => if nm = "join" then some .join else if nm = "count" then some .scount else if nm = "startswith" then some .startswith else if nm = "endswith" then some .endswith else if nm = "split" then some .split else none
  | .ref n => match h[n]? with
    | some (.lst _) => if nm = "append" then some .append else if nm = "pop" then some .pop else if nm = "extend" then some .extend else if nm = "index" then some .lindex else if nm = "count" then some .lcount else none
    | _ => none
  | _ => none
noncomputable def mthF (m : Mth) (x : D) (ds : List D) (h : DH) : Res D :=
  match m with
  | .append => match x, ds with
    | .ref n, [d] => match h[n]? with
      | some (.lst xs) => if xs.length < 16777216 then .ok .non (lset h n (xs ++ [d])) else .no
      | _ => .no
    | _, _ => .no
  | .extend => match x, ds with
    | .ref n, [.ref m] => match h[n]?, h[m]? with
      | some (.lst xs), some (.lst ys) => if xs.length + ys.length ≤ 16777216 then .ok .non (lset h n (xs ++ ys)) else .no
      | _, _ => .no
    | _, _ => .no
  | .pop => match x, ds with
    | .ref n, [] => match h[n]? with
      | some (.lst xs) => match xs[xs.length - 1]? with
        | some y => .ok y (lset h n xs.dropLast)
        | none => .no
      | _ => .no
    | .ref n, [.int i] => match h[n]? with
      | some (.lst xs) => if -hid 9223372036854775808 ≤ i ∧ i < hid 9223372036854775808 then match seqIndex? i xs.length with
        | some k => match xs[k]? with
          | some y => .ok y (lset h n (xs.eraseIdx k))
          | none => .no
        | none => .no else .no
      | _ => .no
    | _, _ => .no
  | .lindex => match x, ds with
    | .ref n, [y] => match h[n]? with
      | some (.lst xs) => if flatD y && xs.all flatD then retD ((idxF y xs).map fun k => .int (k : Nat)) h else .no
      | _ => .no
    | _, _ => .no
  | .lcount => match x, ds with
    | .ref n, [.int k] => match h[n]? with
      | some (.lst xs) => retD ((intsOf xs).map fun ns => .int (ns.count k : Nat)) h
      | _ => .no
    | _, _ => .no
  | .scount => match x, ds with
    | .str a, [.str b] => .ok (.int (Txt.count a b)) h
    | _, _ => .no
  | .join => match x, ds with
    | .str a, [y] => match (listOf h y).bind strsOf with
      | some ys => if (ys.map (·.length)).sum + ys.length * a.length ≤ 16777216 then .ok (.str (Txt.join a ys)) h else .no
      | none => .no
    | _, _ => .no
  | .startswith => match x, ds with
    | .str a, [.str b] => .ok (.bl (Txt.startswith a b)) h
    | _, _ => .no
  | .endswith => match x, ds with
    | .str a, [.str b] => .ok (.bl (Txt.endswith a b)) h
    | _, _ => .no
  | .split => match x, ds with
    | .str a, [.str b] => if (b.length == 0) = false ∧ a.length + 2 ≤ 16777216 then .ok (.ref h.length) (h ++ [.lst ((Txt.split a b).map .str)]) else .no
    | _, _ => .no
def MetS (Z : Zx) (r : V → List V → Hp → VK → Prop) (f : D → List D → DH → Res D) : Prop :=
  ∀ io h H st v x vs ds Q, R Z.K io h H → DRel Z.K io H v x → DRels Z.K io H vs ds → PostR Z io H st (DRel Z.K) (f x ds h) Q → r v vs H Q
section
variable {Z : Zx} {io : List Addr} {h : DH} {H : Hp} {st : L2.St} {Q : VK}
theorem wrLst {n : Nat} {a : Addr} {ds' : List D} {xs' : List V} {d : D} {v : V} (r : R Z.K io h H) (ea : io[n]? = some a) (rx : DRels Z.K io H xs' ds') (rd : DRel Z.K io H v d)
    (p : PostR Z io H st (DRel Z.K) (.ok d (lset h n ds')) Q) : Q v (upd H a (.lst xs')) := by
  have m : a ∈ io := List.mem_of_getElem? ea
  have s : Step Z.K io H io (upd H a (.lst xs')) := Step.write m (r.isMut m)
  exact p v _ io s (r.write ea fun s => ⟨xs', upd_same, rx.mono s⟩) (rd.mono s)
theorem strsRel : ∀ ns : List Str, DRels Z.K io H (ns.map V.str) (ns.map D.str)
  | [] => .nil
  | n :: ns => .cons (.str n) (strsRel ns)
theorem idx_rel {w : V} {y : D} (rw' : DRel Z.K io H w y) (f2 : flatD y = true) : ∀ {vs : List V} {ds : List D} {j : Nat}, DRels Z.K io H vs ds → ds.all flatD = true → idxF y ds = some j →
    ∃ z, vs[j]? = some z ∧ eqV z w = true ∧ ∀ (m : Nat) (z' : V), m < j → vs[m]? = some z' → eqV z' w = false
  | _, _, _, .nil, _, e => by cases e
  | _, _, j, .cons (v := v) (d := d) q t, f, e => by
    rw [List.all_cons, Bool.and_eq_true] at f
    unfold idxF at e
    split at e
    · rename_i c
      cases e
      exact ⟨v, rfl, by rw [eqF_of q rw' f.1 f2]; exact c, fun m z' hm => absurd hm (Nat.not_lt_zero _)⟩
    · rename_i c
      obtain ⟨k, e1, rfl⟩ := map_inv e
      obtain ⟨z, h1, h2, h3⟩ := idx_rel rw' f2 t f.2 e1
      refine ⟨z, h1, h2, fun m z' hm hz => ?_⟩
      cases m with
      | zero =>
        cases hz
        rw [eqF_of q rw' f.1 f2]
        simpa using c
      | succ m => exact h3 m z' (by omega) hz
end
theorem strOf1 {Z : Zx} {io : List Addr} {H : Hp} {vs : List V} {b : Str} (r : DRels Z.K io H vs [.str b]) : vs = [.str b] := by
  cases r with
  | cons q t => cases q; cases t; rfl
theorem mth_ok (X : Cx) (Z : Zx) (hK : Z.K = X.K) {io : List Addr} {h : DH} {H : Hp} {nm : Str} {x : D} {v : V} {m : Mth} (r0 : R Z.K io h H) (rx0 : DRel Z.K io H v x) (e : mthOf nm x h = some m) :
    ∃ T id r, MOk X nm T id r ∧ tyV X.K T v H ∧ MetS Z r (mthF m) := by
  have hl := sizeLine_eq
  cases x with
  | str z =>
    cases rx0
    have ty : tyV X.K "str" (.str z) H := rfl
    unfold mthOf at e
    dsimp only at e
    split at e
    · cases e; subst nm
      refine ⟨_, _, _, ⟨PySem.F.plainAttrs_str, PySem.F.slot_str_join, PySem.F.type_str_join, mt_join⟩, ty, fun io h H st v x vs ds Q r rv rs p => ?_⟩
      rw [← hK]
      dsimp only [mthF] at p
      split at p
      · cases rv
        cases rs with
        | cons q t =>
          cases t
          split at p
          · rename_i ys e1
            obtain ⟨l, e2, e3⟩ := bind_inv e1
            obtain ⟨a, xs, rfl, hs, rl⟩ := listOf_rel r q e2
            have hx := strsOf_rel e3 rl
            subst hx
            split at p
            · rename_i c
              exact ⟨_, a, ys, rfl, rfl, hs, c, p.here r (.str _)⟩
            · exact p.elim
          · exact p.elim
      · exact p.elim
    split at e
    · cases e; subst nm
      refine ⟨_, _, _, ⟨PySem.F.plainAttrs_str, PySem.F.slot_str_count, PySem.F.type_str_count, mt_count⟩, ty, fun io h H st v x vs ds Q r rv rs p => ?_⟩
      dsimp only [mthF] at p
      split at p
      · cases rv; rw [strOf1 rs]; exact ⟨_, _, rfl, rfl, p.here r (.int _)⟩
      · exact p.elim
    split at e
    · cases e; subst nm
      refine ⟨_, _, _, ⟨PySem.F.plainAttrs_str, PySem.F.slot_str_startswith, PySem.F.type_str_startswith, mt_startswith⟩, ty, fun io h H st v x vs ds Q r rv rs p => ?_⟩
      dsimp only [mthF] at p
      split at p
      · cases rv; rw [strOf1 rs]; exact ⟨_, _, rfl, rfl, p.here r (.bl _)⟩
      · exact p.elim
    split at e
    · cases e; subst nm
      refine ⟨_, _, _, ⟨PySem.F.plainAttrs_str, PySem.F.slot_str_endswith, PySem.F.type_str_endswith, mt_endswith⟩, ty, fun io h H st v x vs ds Q r rv rs p => ?_⟩
      dsimp only [mthF] at p
      split at p
      · cases rv; rw [strOf1 rs]; exact ⟨_, _, rfl, rfl, p.here r (.bl _)⟩
      · exact p.elim
    split at e
    · cases e; subst nm
      refine ⟨_, _, _, ⟨PySem.F.plainAttrs_str, PySem.F.slot_str_split, PySem.F.type_str_split, mt_split⟩, ty, fun io h H st v x vs ds Q r rv rs p => ?_⟩
      dsimp only [mthF] at p
      split at p
      · cases rv; rw [strOf1 rs]
        split at p
        · rename_i c
          exact ⟨_, _, rfl, rfl, c.1, by omega, fun l hl => newLst r (strsRel _) p hl⟩
        · exact p.elim
      · exact p.elim
    cases e
  | ref n =>
    unfold mthOf at e
    dsimp only at e
    split at e
    · rename_i xs0 e0
      obtain ⟨a0, ys0, rfl, _, hy0, _⟩ := r0.isLst rx0 e0
      have ty : tyV X.K "list" (.ref a0) H := .inl ⟨rfl, _, SqL.of hy0⟩
      split at e
      · cases e; subst nm
        refine ⟨_, _, _, ⟨PySem.F.plainAttrs_list, PySem.F.slot_list_append, PySem.F.type_list_append, mt_append⟩, ty, fun io h H st v x vs ds Q r rv rs p => ?_⟩
        dsimp only [mthF] at p
        split at p
        · split at p
          · rename_i xs e1
            obtain ⟨a, ys, rfl, ea, hy, ry⟩ := r.isLst rv e1
            cases rs with
            | cons q t =>
              cases t
              split at p
              · exact ⟨a, ys, _, rfl, rfl, hy, by rw [ry.length]; omega, wrLst r ea (ry.append (.cons q .nil)) .non p⟩
              · exact p.elim
          · exact p.elim
        · exact p.elim
      split at e
      · cases e; subst nm
        refine ⟨_, _, _, ⟨PySem.F.plainAttrs_list, PySem.F.slot_list_pop, PySem.F.type_list_pop, MtR.or mt_pop mt_popAt⟩, ty, fun io h H st v x vs ds Q r rv rs p => ?_⟩
        dsimp only [mthF] at p
        split at p
        · cases rs
          split at p
          · rename_i xs e1
            obtain ⟨a, ys, rfl, ea, hy, ry⟩ := r.isLst rv e1
            split at p
            · rename_i y ey
              obtain ⟨w, hw, rw'⟩ := ry.get ey
              have rd : DRels Z.K io H ys.dropLast xs.dropLast := by
                rw [List.dropLast_eq_take, List.dropLast_eq_take, ry.length]
                exact ry.take _
              exact .inl ⟨a, ys, w, rfl, rfl, hy, by rw [ry.length]; exact hw, wrLst r ea rd rw' p⟩
            · exact p.elim
          · exact p.elim
        · cases rs with
          | cons q t =>
            cases q; cases t
            split at p
            · rename_i xs e1
              obtain ⟨a, ys, rfl, ea, hy, ry⟩ := r.isLst rv e1
              split at p
              · rename_i c
                rw [hid_eq] at c
                split at p
                · rename_i k ek
                  split at p
                  · rename_i y ey
                    obtain ⟨w, hw, rw'⟩ := ry.get ey
                    exact .inr ⟨a, ys, _, k, w, rfl, rfl, hy, by omega, by omega, by rw [ry.length]; exact ek, hw, wrLst r ea (ry.eraseIdx k) rw' p⟩
                  · exact p.elim
                · exact p.elim
              · exact p.elim
            · exact p.elim
        · exact p.elim
      split at e
      · cases e; subst nm
        refine ⟨_, _, _, ⟨PySem.F.plainAttrs_list, PySem.F.slot_list_extend, PySem.F.type_list_extend, mt_extend⟩, ty, fun io h H st v x vs ds Q r rv rs p => ?_⟩
        dsimp only [mthF] at p
        split at p
        · cases rs with
          | cons q t =>
            cases t
            split at p
            · rename_i xs ys e1 e2
              obtain ⟨a, us, rfl, ea, hu, ru⟩ := r.isLst rv e1
              obtain ⟨b, ws, rfl, eb, hw, rw'⟩ := r.isLst q e2
              split at p
              · exact ⟨a, b, us, ws, rfl, rfl, hu, hw, by rw [ru.length, rw'.length]; omega, wrLst r ea (ru.append rw') .non p⟩
              · exact p.elim
            · exact p.elim
        · exact p.elim
      split at e
      · cases e; subst nm
        refine ⟨_, _, _, ⟨PySem.F.plainAttrs_list, PySem.F.slot_list_index, PySem.F.type_list_index, mt_index⟩, ty, fun io h H st v x vs ds Q r rv rs p => ?_⟩
        rw [← hK]
        dsimp only [mthF] at p
        split at p
        · cases rs with
          | cons q t =>
            cases t
            split at p
            · rename_i xs e1
              obtain ⟨a, ys, rfl, ea, hy, ry⟩ := r.isLst rv e1
              split at p
              · rename_i c
                rw [Bool.and_eq_true] at c
                obtain ⟨d, e2, p⟩ := retD_post p
                obtain ⟨j, e3, rfl⟩ := map_inv e2
                obtain ⟨z, h1, h2, h3⟩ := idx_rel q c.1 ry c.2 e3
                exact ⟨a, ys, _, j, z, rfl, rfl, SqL.of hy, flat_of q c.1, flats_of ry c.2, h1, h2, h3, p.here r (.int _)⟩
              · exact p.elim
            · exact p.elim
        · exact p.elim
      split at e
      · cases e; subst nm
        refine ⟨_, _, _, ⟨PySem.F.plainAttrs_list, PySem.F.slot_list_count, PySem.F.type_list_count, mt_lcount⟩, ty, fun io h H st v x vs ds Q r rv rs p => ?_⟩
        rw [← hK]
        dsimp only [mthF] at p
        split at p
        · cases rs with
          | cons q t =>
            cases q; cases t
            split at p
            · rename_i xs e1
              obtain ⟨a, ys, rfl, ea, hy, ry⟩ := r.isLst rv e1
              obtain ⟨d, e2, p⟩ := retD_post p
              obtain ⟨ns, e3, rfl⟩ := map_inv e2
              have hx := intsOf_rel e3 ry
              subst hx
              exact ⟨a, ns, _, rfl, rfl, SqL.of hy, p.here r (.int _)⟩
            · exact p.elim
        · exact p.elim
      cases e
    · cases e
  | _ => cases e
end PyI
-- PyG0
/-! PyG: what a loop walks -/
namespace PyI
open PySem PySem.Spec PyProof.Rows L2

/-! ### enumerate(t), t a tuple; enumerate(x), x a text -/
theorem enum_newB {v : Value} {o : Obj} {H : Heap → Prop} (B : Begins v o H) :
    Meets (Builtin.«enumerate.__new__» ⟨[.type "enumerate", v], []⟩) (fun _ R s => H s.heap ∧
      R (.ok (.ret (.ref (s.heap.push o).objs.size))) { s with heap := (s.heap.push o).push { cls := .type "enumerate", data := .fields #[.none, .bool false, .ref s.heap.objs.size, rawInt 0, .none, .none] } }) :=
  .of_wp fun prog w A R s h => by
    obtain ⟨hp, g, d, tk, os⟩ := s
    obtain ⟨hH, hR⟩ := h
    have hsub := sub_enumerate
    have go : ∀ {A' : Around} {E : Value → Shared → Prop} {Q : Value → Shared → Prop}, Q (.ref hp.objs.size) ⟨hp.push o, g, d, tk, os⟩ → wpAny (model prog w) A' (pyIter v) Q E ⟨hp, g, d, tk, os⟩ :=
      fun q => B.iter prog w _ _ ⟨hp, g, d, tk, os⟩ _ hH q
    wp_walk using go
    refine wpAny_stack_any fun st => wpAny_pure ?_
    split
    · rename_i c _ _ _ _ _
      cases (c == Value.type "enumerate")
      · wp_walk using go
        exact ⟨_, rfl, hR⟩
      · wp_walk using go
        exact ⟨_, rfl, hR⟩
    · wp_walk using go
      exact ⟨_, rfl, hR⟩
end PyI
-- PyH
namespace PyI
open PySem PySem.Spec PyProof.Rows L2
theorem enum_begins1 {prog : Program} {w : World} {A : Around} {E : Value → Shared → Prop} {s : Shared} {v : Value} {o : Obj} {H : Heap → Prop} {Q : Value → Shared → Prop} (B : Begins v o H) (h1 : H s.heap)
    (h : ∀ h', IsEnum h' (s.heap.objs.size + 1) s.heap.objs.size 0 .none → h'.get? s.heap.objs.size = some o →
      (∀ b u, s.heap.get? b = some u → h'.get? b = some u) → Q (.ref (s.heap.objs.size + 1)) { s with heap := h' }) :
    wpAny (model prog w) A (call (.type "enumerate") [v]) Q E s := by
  refine callType_new F.called_enumerate (by decide) (F.typeCall_enumerate_1 _) (F.newCall_enumerate_1 _) (fun obj => F.args_object_init_2 obj _) F.entry_enumerate_new (enum_newB B) ⟨h1, ?_⟩
  have hz : (s.heap.push o).objs.size = s.heap.objs.size + 1 := Heap.size_push ..
  show _ ∧ _
  rw [hz]
  have he : IsEnum ((s.heap.push o).push { cls := .type "enumerate", data := .fields #[.none, .bool false, .ref s.heap.objs.size, rawInt 0, .none, .none] }) (s.heap.objs.size + 1) s.heap.objs.size 0 .none := by
    have q := Heap.get?_push_size (s.heap.push o) (o := { cls := .type "enumerate", data := .fields #[.none, .bool false, .ref s.heap.objs.size, rawInt 0, .none, .none] }) rfl
    rw [hz] at q
    exact q
  exact ⟨⟨_, he, rfl⟩, h _ he (Heap.get?_push_of_some _ (Heap.get?_push_size _ B.free)) fun b u x => Heap.get?_push_of_some _ (Heap.get?_push_of_some _ x)⟩
/-- pairs (i, x), x told by P, while G holds -/
def IteG (n : Nat) (P : Nat → V → Prop) (G : Hp → Prop) : It :=
  ⟨fun i H => i < n ∧ G H, fun i H v H' => ∃ T x, v = .ref T ∧ H T = none ∧ H' = upd H T (.tup [.int (i : Nat), x]) ∧ P i x, fun i H => n ≤ i ∧ G H⟩
/-- how an iterator draws the items -/
structure Src (P : Program) (w : World) (K : PySem.W.Frag) (it : Addr) (n : Nat) (PV : Nat → V → Prop) (G : Hp → Prop) (I0 : Nat → Heap → Prop) (e : Addr) : Prop where
  keep : ∀ i h h', I0 i h → (∀ o, h.get? it = some o → h'.get? it = some o) → I0 i h'
  live : ∀ i h, I0 i h → ∃ o, h.get? it = some o ∧ ∀ v, o.data ≠ .cell v
  draw : ∀ (X : Cx), X.prog = P → X.w = w → X.K = K → X.calm = true → ∀ (pins : List (Addr × Obj)) (st : L2.St) (H : Hp) (s : Shared), Inv X pins st H s → G H →
    ∃ (fp : List Addr) (Pv : Nat → Value → Prop) (Sv : Nat → Heap → Prop), Draws P w X.A.in1 it fp n Pv Sv ∧ e ∉ fp ∧ (∀ i, I0 i s.heap → Sv i s.heap) ∧ (∀ i h, Sv i h → I0 i h) ∧ ∀ i u, Pv i u → ∃ x, RelV x u ∧ PV i x
theorem turn_enumG {P : Program} {w : World} {K : PySem.W.Frag} {elts : List Expr} {kk : Nat} {tpos : Pos} {n : Nat} {PV : Nat → V → Prop} {G : Hp → Prop} {I0 : Nat → Heap → Prop} (e it : Addr) (S : Src P w K it n PV G I0 e) :
    Turn P w K (.Tuple elts kk tpos) (IteG n PV G) [e, it] e (fun i h => (∃ old, IsEnum h e it ((i : Nat) : Int) old) ∧ I0 i h ∧ e ≠ it ∧ i ≤ n) where
  mem := by simp
  obj := fun i h z b hb => by
    obtain ⟨⟨old, he⟩, z, _⟩ := z
    have hb' : b = e ∨ b = it := by simpa using hb
    rcases hb' with q | q
    · subst q; exact ⟨_, he, fun v q => nomatch q⟩
    · subst q; exact S.live i h z
  keep := fun i h h' z k => ⟨let ⟨old, he⟩ := z.1; ⟨old, k e (by simp) _ he⟩, S.keep i h h' z.2.1 fun o q => k it (by simp) o q, z.2.2⟩
  item := by
    intro X hP hw hK hc i pins s st H E I hf z hg
    obtain ⟨⟨old, he⟩, hit, hne, hle⟩ := z
    obtain ⟨hlt, g⟩ := hg
    obtain ⟨fp, Pv, Sv, D, hef, q1, q2, q3⟩ := S.draw X hP hw hK hc pins st H s I g
    subst hP hw hK
    have hel : e < s.heap.objs.size := Heap.lt_size he
    have hil : it < s.heap.objs.size := by obtain ⟨_, q, _⟩ := S.live _ _ hit; exact Heap.lt_size q
    refine wpAny_pyNext_enum_itemD D he (q1 i hit) hlt hne hef fun u h' tk hu ho hst' hT hsz hk => ?_
    obtain ⟨x, rx, px⟩ := q3 i u hu
    refine ⟨_, rfl, wpAny_letOwnedTupleGo_enum (s := { s with heap := h', toks := tk + 1 }) ho fun h2 he2 sb => ?_⟩
    have hT2 : h2.get? s.heap.objs.size = some { cls := .type "tuple", data := .seq #[.int i tk, u] } := (sb.2 _ (Nat.ne_of_gt hel)).trans hT
    have new : ObjOk X.prog X.w (upd H s.heap.objs.size (.tup [.int (i : Nat), x])) h2 s.heap.objs.size (.tup [.int (i : Nat), x]) :=
      ⟨by show 2 ≤ sizeLine; decide, [.int i tk, u], .cons ⟨_, rfl⟩ (.cons rx .nil), ⟨_, hT2, rfl, _, rfl⟩⟩
    have I1 : Inv X pins st (upd H s.heap.objs.size (.tup [.int (i : Nat), x])) { s with heap := h2, toks := tk + 1 } :=
      I.turnedNew (ch := [e, it]) (fun b ob hb q => (sb.2 b (fun z => hb (by simp [z]))).trans (hk b ob (fun z => hb (by simp [z])) (fun z => hb (by simp [z])) q)) hf (Nat.le_refl _) new
    refine ⟨.ref s.heap.objs.size, _, I1, rfl, ⟨_, x, rfl, I.hok.fresh (Nat.le_refl _), rfl, px⟩, ⟨⟨u, ?_⟩, S.keep _ _ _ (q2 _ _ hst') fun o q => (sb.2 it (Ne.symm hne)).trans q, hne, hlt⟩, fun b hb => ?_⟩
    · have e1 : ((i + 1 : Nat) : Int) = (i : Int) + 1 := by omega
      rw [e1]; exact he2
    · have hb' : b = e ∨ b = it := by simpa using hb
      have hbs : b < s.heap.objs.size := by
        rcases hb' with z | z
        · rw [z]; exact hel
        · rw [z]; exact hil
      rw [upd_ne (Nat.ne_of_lt hbs)]
      exact (hf b hb).1
  done := by
    intro X hP hw hK hc i pins s st H E I hf z hg
    obtain ⟨⟨old, he⟩, hit, hne, hle⟩ := z
    obtain ⟨hge, g⟩ := hg
    obtain ⟨fp, Pv, Sv, D, hef, q1, q2, q3⟩ := S.draw X hP hw hK hc pins st H s I g
    subst hP hw hK
    have ei : i = n := Nat.le_antisymm hle hge
    subst ei
    obtain ⟨f0, f1, f2, f3, f4, f5⟩ := hf it (by simp)
    exact wpAny_pyNext_enum_endD D he (q1 i hit) fun h' eb => ⟨rfl, I.turned (t' := s.toks) (fun b o hb q => eb b o hb q) f0 f1 f3 f4 f5⟩
  self := fun A i s Q E z h => let ⟨⟨_, he⟩, _⟩ := z; wpAny_pyIter_enum he h
theorem src_tup {P : Program} {w : World} {K : PySem.W.Frag} {it e a : Addr} {xs : List V} (h1 : a ≠ it) (h2 : e ≠ it) (h3 : e ≠ a) : Src P w K it xs.length (fun i x => xs[i]? = some x) (fun H => SqT K H a xs) (fun i h => h.IsTupleIter it a i) e where
  keep := fun i h h' z k => let ⟨o, ho, r⟩ := z; ⟨o, k o ho, r⟩
  live := fun i h z => let ⟨o, ho, hc, hd⟩ := z; ⟨o, ho, fun v q => by rw [hd] at q; cases q⟩
  draw := by
    intro X hP hw hK hc pins st H s I g
    subst hP hw hK
    obtain ⟨its, rv, ht, hz⟩ := I.tuple g
    have hl := rv.length
    refine ⟨[it, a], (fun i v => its.toArray[i]? = some v), (fun i h => h.IsTupleIter it a i ∧ h.IsTuple a its.toArray), (by have D := Draws.tuple (prog := X.prog) (w := X.w) (A := X.A.in1) (I.ok.hd hc) it a h1 its.toArray; rw [List.size_toArray, ← hl] at D; exact D), by simp [h2, h3], fun i z => ⟨z, ht⟩, fun i h z => z.1, fun i u hu => ?_⟩
    have hu : its[i]? = some u := by simpa using hu
    have hi : i < xs.length := by rw [hl]; exact (List.getElem?_eq_some_iff.mp hu).1
    obtain ⟨u2, e2, r2⟩ := rv.get (List.getElem?_eq_getElem hi)
    rw [hu] at e2; cases e2
    exact ⟨_, r2, List.getElem?_eq_getElem hi⟩
theorem src_str {P : Program} {w : World} {K : PySem.W.Frag} {it e : Addr} {x : Str} {t : Tok} (h2 : e ≠ it) : Src P w K it x.cps.size (fun i v => ∃ c, x.cps[i]? = some c ∧ v = .str ⟨#[c]⟩) (fun _ => True) (fun i h => h.IsStrIter it (strIterType x) x t i) e where
  keep := fun i h h' z k => let ⟨o, ho, r⟩ := z; ⟨o, k o ho, r⟩
  live := fun i h z => let ⟨o, ho, hc, hd⟩ := z; ⟨o, ho, fun v q => by rw [hd] at q; cases q⟩
  draw := by
    intro X hP hw hK hc pins st H s I g
    subst hP hw hK
    refine ⟨[it], _, _, Draws.text (prog := X.prog) (w := X.w) (A := X.A.in1) (I.ok.hd hc) it x t, by simp [h2], fun i z => z, fun i h z => z, fun i u hu => ?_⟩
    obtain ⟨c, u', hc', rfl⟩ := hu
    exact ⟨.str ⟨#[c]⟩, ⟨_, rfl⟩, c, hc', rfl⟩
def iEnumA (K : PySem.W.Frag) (ta : TA) : TI := fun st H R' => ta st H fun vs H1 => (∃ a xs, vs = [.ref a] ∧ SqL K H1 a xs ∧ R' (Ite K a) H1) ∨ (∃ a xs, vs = [.ref a] ∧ SqT K H1 a xs ∧ R' (IteG xs.length (fun i x => xs[i]? = some x) fun H => SqT K H a xs) H1) ∨
  ∃ x, vs = [.str x] ∧ R' (IteG x.cps.size (fun i v => ∃ c, x.cps[i]? = some c ∧ v = .str ⟨#[c]⟩) fun _ => True) H1
theorem pi_enumA {X : Cx} {e : Expr} {ta : TA} {p pos tpos : Pos} {elts : List Expr} {kk : Nat} (hg : Gl X "enumerate") (hm : X.mg "enumerate" = none) (ha : PA X [e] ta) (hs : starEach [e] X.env = [(false, eval e X.env)]) :
    PI X (.Tuple elts kk tpos) (.Call (.Name "enumerate" p) [e] [] pos) (iEnumA X.K ta) := by
  refine ⟨fun pins s st H R' I h => ?_⟩
  refine Call_ (ld_blt I hg hm boot_enumerate (PyProof.Rows.callWith_type1 (thn (ha.run pos pins s st H _ I h) fun us s1 ⟨vs, H1, I1, r1, q1⟩ => ?_) hs rfl))
  have fp2 : ∀ {H2 : Hp}, H2 = H1 → ∀ b ∈ [s1.heap.objs.size + 1, s1.heap.objs.size], FpOk X pins H2 b := fun {H2} e b hb => by
    subst e
    have hb' : b = s1.heap.objs.size + 1 ∨ b = s1.heap.objs.size := by simpa using hb
    have hle : s1.heap.objs.size ≤ b := by
      rcases hb' with z | z
      · rw [z]; exact Nat.le_add_right _ _
      · rw [z]; exact Nat.le_refl _
    exact I1.fpOk hle (I1.hok.fresh hle)
  rcases q1 with ⟨a, xs, rfl, hq, q⟩ | ⟨a, xs, rfl, hq, q⟩ | ⟨x, rfl, q⟩
  · rw [Vals.ref1 r1]
    obtain ⟨its, rv, p', hz⟩ := I1.list hq
    refine call_enumerate_list p'.isList fun h' he hit hsz hk => wpAny_pyIter_enum he ?_
    exact ⟨s1.heap.objs.size + 1, [s1.heap.objs.size + 1, s1.heap.objs.size], _, _, H1, rfl, I1.kept (t' := s1.toks) hk, turn_enum a (s1.heap.objs.size + 1) s1.heap.objs.size, ⟨⟨.none, he⟩, hit, Nat.succ_ne_self _⟩, fp2 rfl, q⟩
  · rw [Vals.ref1 r1]
    obtain ⟨its, rv, ht, hz⟩ := I1.tuple hq
    have hal : a < s1.heap.objs.size := by obtain ⟨o, ho, _⟩ := ht; exact Heap.lt_size ho
    refine enum_begins1 (begins_tuple a its.toArray) ht fun h' he hit hk => wpAny_pyIter_enum he ?_
    exact ⟨s1.heap.objs.size + 1, [s1.heap.objs.size + 1, s1.heap.objs.size], _, _, H1, rfl, I1.kept (t' := s1.toks) hk,
      turn_enumG _ _ (src_tup (Nat.ne_of_lt hal) (Nat.succ_ne_self _) (Nat.ne_of_gt (Nat.lt_succ_of_lt hal))), ⟨⟨.none, he⟩, ⟨_, hit, rfl, rfl⟩, Nat.succ_ne_self _, Nat.zero_le _⟩, fp2 rfl, q⟩
  · obtain ⟨u, rfl, t, rfl⟩ := vals1 r1
    refine enum_begins1 (begins_text x t) trivial fun h' he hit hk => wpAny_pyIter_enum he ?_
    exact ⟨s1.heap.objs.size + 1, [s1.heap.objs.size + 1, s1.heap.objs.size], _, _, H1, rfl, I1.kept (t' := s1.toks) hk,
      turn_enumG _ _ (src_str (t := t) (Nat.succ_ne_self _)), ⟨⟨.none, he⟩, ⟨_, hit, rfl, rfl⟩, Nat.succ_ne_self _, Nat.zero_le _⟩, fp2 rfl, q⟩
end PyI
-- PyI
/-! PyI: the mirror's combinators and their readings -/
namespace PyI
noncomputable section
open PySem PySem.Spec PyProof.Rows L2

def strict {α : Type} : Res α → Res α
  | .ok a h => .ok a h
  | _ => .no
abbrev MO := DS → DH → Res (Option Int)
def mNo : ME := fun _ _ => .no
def mLit (d : D) : ME := fun _ h => .ok d h
def mVar (i : Nat) : ME := fun s h => match s[i]? with
  | some (some d) => .ok d h
  | _ => .no
def mBin (f : D → D → DH → Res D) (a b : ME) : ME := fun s h => (a s h).bind fun x h1 => (b s h1).bind fun y h2 => f x y h2
def mNeg (a : ME) : ME := fun s h => (a s h).bind fun x h1 => match x with
  | .int i => .ok (.int (-i)) h1
  | _ => .no
def asB (r : Res D) : Res Bool := r.bind fun x h => match x with
  | .bl b => .ok b h
  | _ => .no
def mNotE (a : ME) : ME := fun s h => (asB (a s h)).bind fun b h1 => .ok (.bl (!b)) h1
def mAndE : List ME → ME
  | [] => mNo
  | [a] => a
  | a :: r => fun s h => (asB (a s h)).bind fun b h1 => if b then mAndE r s h1 else .ok (.bl false) h1
def mOrE : List ME → ME
  | [] => mNo
  | [a] => a
  | a :: r => fun s h => (asB (a s h)).bind fun b h1 => if b then .ok (.bl true) h1 else mOrE r s h1
def tNo : MT := fun _ _ => .no
def mAndT : List MT → MT
  | [] => tNo
  | [a] => a
  | a :: r => fun s h => (a s h).bind fun b h1 => if b then mAndT r s h1 else .ok false h1
def mOrT : List MT → MT
  | [] => tNo
  | [a] => a
  | a :: r => fun s h => (a s h).bind fun b h1 => if b then .ok true h1 else mOrT r s h1
def mNotT (a : MT) : MT := fun s h => (a s h).bind fun b h1 => .ok (!b) h1
def mB (a : ME) : MT := fun s h => asB (a s h)
def truOf (d : D) (h : DH) : Option Bool := match d with
  | .non => some false
  | .bl b => some b
  | .int i => some (i != 0)
  | .str y => if y.length ≤ 16777216 then some ((y.length : Int) != 0) else none
  | d => (listOf h d).map fun l => !l.isEmpty
def mTru (a : ME) : MT := fun s h => (a s h).bind fun x h1 => match truOf x h1 with
  | some b => .ok b h1
  | none => .no
def mChain (f g : D → D → DH → Res D) (a b c : ME) : ME := fun s h => (a s h).bind fun x h1 => (b s h1).bind fun y h2 => (asB (f x y h2)).bind fun k h3 => if k then (c s h3).bind fun z h4 => g y z h4 else .ok (.bl false) h3
def mIf (t : MT) (a b : ME) : ME := fun s h => (t s h).bind fun k h1 => if k then a s h1 else b s h1
def mArgs : List ME → MA
  | [] => fun _ h => .ok [] h
  | a :: r => fun s h => (a s h).bind fun x h1 => (mArgs r s h1).bind fun xs h2 => .ok (x :: xs) h2
def mTup (l : List ME) : ME := fun s h => (mArgs l s h).bind fun xs h1 => if xs.length ≤ 16777216 then .ok (.tup xs) h1 else .no
def mLst (l : List ME) : ME := fun s h => (mArgs l s h).bind fun xs h1 => if xs.length ≤ 16777216 then .ok (.ref h1.length) (h1 ++ [.lst xs]) else .no
def mPart (a : ME) : MO := fun s h => (a s h).bind fun x h1 => match x with
  | .int i => .ok (some i) h1
  | _ => .no
def oNone : MO := fun _ h => .ok none h
def mSl (a : ME) (lo hi : MO) : ME := fun s h => (a s h).bind fun x h1 => (lo s h1).bind fun l h2 => (hi s h2).bind fun u h3 => opSl x l u h3
def mRev (a : ME) : ME := fun s h => (a s h).bind fun x h1 => match x with
  | .ref n => match listOf h1 (.ref n) with
    | some l => .ok (.ref h1.length) (h1 ++ [.lst l.reverse])
    | none => .no
  | _ => .no
def mBlt (b : Blt) (l : List ME) : ME := fun s h => (mArgs l s h).bind fun xs h1 => bltF b xs h1
def mMeth (nm : Str) (o : ME) (l : List ME) : ME := fun s h => (o s h).bind fun x h1 => match mthOf nm x h1 with
  | some m => (mArgs l s h1).bind fun xs h2 => mthF m x xs h2
  | none => .no
def mDict0 : ME := fun _ h => .ok (.ref h.length) (h ++ [.dic []])
def permOf (pm : List Nat) (xs : List D) : Option (List D) := pm.mapM fun j => xs[j]?
def mCall (F : List D → DH → Res D) (pm : List Nat) (l : List ME) : ME := fun s h => (mArgs l s h).bind fun xs h1 => match permOf pm xs with
  | some ys => F ys h1
  | none => .no

section
variable {Z : Zx} {st : L2.St} {H : Hp} {Q : VK} {a b c : ME}
theorem OpS.mono {r r' : R2} {f : D → D → DH → Res D} (h : OpS Z r f) (e : ∀ x y H Q, r x y H Q → r' x y H Q) : OpS Z r' f := fun io h0 H st x y dx dy Q a b c p => e _ _ _ _ (h io h0 H st x y dx dy Q a b c p)
theorem s_lit {d : D} (h : tM Z (mLit d) st H Q) {v : V} (r : ∀ io, DRel Z.K io H v d) : tC v st H Q := by
  obtain ⟨io, s, h0, hR, hE, p⟩ := h
  exact p.here hR (r io)
theorem s_var {i : Nat} (h : tM Z (mVar i) st H Q) : tVar i st H Q := by
  obtain ⟨io, s, h0, hR, hE, p⟩ := h
  dsimp only [mVar] at p
  split at p
  · rename_i d e
    obtain ⟨v, h1, h2⟩ := hE.get i d e
    exact ⟨v, h1, p.here hR h2⟩
  · exact p.elim
theorem s_bin {r : R2} {f : D → D → DH → Res D} (hs : OpS Z r f) (h : tM Z (mBin f a b) st H Q) : tOp r (tM Z a) (tM Z b) st H Q := by
  obtain ⟨io, s, h0, hR, hE, p⟩ := h
  refine ⟨io, s, h0, hR, hE, (PostR.bind (rel1 := DRel Z.K) p).imp fun x H1 hx => ?_⟩
  obtain ⟨io1, h1, d1, t1, R1, r1, p1⟩ := hx
  refine ⟨io1, s, h1, R1, hE.mono t1, (PostR.bind (rel1 := DRel Z.K) p1).imp fun y H2 hy => ?_⟩
  obtain ⟨io2, h2, d2, t2, R2, r2, p2⟩ := hy
  exact hs io2 h2 H2 st x y d1 d2 Q R2 (r1.mono t2) r2 p2
theorem asB_post {io : List Addr} {r : Res D} {f : Bool → DH → Res D} (p : PostR Z io H st (DRel Z.K) ((asB r).bind f) Q) : PostR Z io H st (DRel Z.K) (r.bind fun x h => match x with | .bl k => f k h | _ => .no) Q := by
  cases r with
  | ok d h => cases d <;> exact p
  | exc x h => exact p
  | no => exact p
theorem s_neg (h : tM Z (mNeg a) st H Q) : tUn (rU fun i => .int (-i)) (tM Z a) st H Q := by
  obtain ⟨io, s, h0, hR, hE, p⟩ := h
  refine ⟨io, s, h0, hR, hE, (PostR.bind (rel1 := DRel Z.K) p).imp fun x H1 hx => ?_⟩
  obtain ⟨io1, h1, d1, t1, R1, r1, p1⟩ := hx
  cases d1 with
  | int i => cases r1; exact ⟨i, rfl, p1.here R1 (.int _)⟩
  | _ => exact p1.elim
theorem s_notE (h : tM Z (mNotE a) st H Q) : tNotV (tM Z a) st H Q := by
  obtain ⟨io, s, h0, hR, hE, p⟩ := h
  refine ⟨io, s, h0, hR, hE, (PostR.bind (rel1 := DRel Z.K) (asB_post p)).imp fun x H1 hx => ?_⟩
  obtain ⟨io1, h1, d1, t1, R1, r1, p1⟩ := hx
  cases d1 with
  | bl i => cases r1; exact ⟨i, rfl, p1.here R1 (.bl _)⟩
  | _ => exact p1.elim
theorem s_andE {m : ME} {r : List ME} (h : tM Z (mAndE (a :: m :: r)) st H Q) : tAndV (tM Z a) (tM Z (mAndE (m :: r))) st H Q := by
  obtain ⟨io, s, h0, hR, hE, p⟩ := h
  refine ⟨io, s, h0, hR, hE, (PostR.bind (rel1 := DRel Z.K) (asB_post p)).imp fun x H1 hx => ?_⟩
  obtain ⟨io1, h1, d1, t1, R1, r1, p1⟩ := hx
  cases d1 with
  | bl k =>
    cases r1
    refine ⟨k, rfl, ?_⟩
    cases k with
    | true => rw [if_pos rfl]; exact ⟨io1, s, h1, R1, hE.mono t1, p1⟩
    | false => rw [if_neg Bool.false_ne_true]; exact PostR.here (rel := DRel Z.K) p1 R1 (.bl _)
  | _ => exact p1.elim
theorem s_orE {m : ME} {r : List ME} (h : tM Z (mOrE (a :: m :: r)) st H Q) : tOrV (tM Z a) (tM Z (mOrE (m :: r))) st H Q := by
  obtain ⟨io, s, h0, hR, hE, p⟩ := h
  refine ⟨io, s, h0, hR, hE, (PostR.bind (rel1 := DRel Z.K) (asB_post p)).imp fun x H1 hx => ?_⟩
  obtain ⟨io1, h1, d1, t1, R1, r1, p1⟩ := hx
  cases d1 with
  | bl k =>
    cases r1
    refine ⟨k, rfl, ?_⟩
    cases k with
    | true => rw [if_pos rfl]; exact PostR.here (rel := DRel Z.K) p1 R1 (.bl _)
    | false => rw [if_neg Bool.false_ne_true]; exact ⟨io1, s, h1, R1, hE.mono t1, p1⟩
  | _ => exact p1.elim
theorem s_if {t : MT} (h : tM Z (mIf t a b) st H Q) : tIf (tMT Z t) (tM Z a) (tM Z b) st H Q := by
  obtain ⟨io, s, h0, hR, hE, p⟩ := h
  refine ⟨io, s, h0, hR, hE, (PostR.bind (rel1 := fun _ _ (b c : Bool) => b = c) p).imp fun x H1 hx => ?_⟩
  obtain ⟨io1, h1, d1, t1, R1, r1, p1⟩ := hx
  subst r1
  cases x with
  | true => rw [if_pos rfl]; exact ⟨io1, s, h1, R1, hE.mono t1, p1⟩
  | false => rw [if_neg Bool.false_ne_true]; exact ⟨io1, s, h1, R1, hE.mono t1, p1⟩
theorem s_nil {QA : List V → Hp → Prop} (h : tMA Z (mArgs []) st H QA) : tNil st H QA := by
  obtain ⟨io, s, h0, hR, hE, p⟩ := h
  exact p.here hR .nil
theorem s_cons {r : List ME} {QA : List V → Hp → Prop} (h : tMA Z (mArgs (a :: r)) st H QA) : tCons (tM Z a) (tMA Z (mArgs r)) st H QA := by
  obtain ⟨io, s, h0, hR, hE, p⟩ := h
  refine ⟨io, s, h0, hR, hE, (PostR.bind (rel1 := DRel Z.K) p).imp fun x H1 hx => ?_⟩
  obtain ⟨io1, h1, d1, t1, R1, r1, p1⟩ := hx
  refine ⟨io1, s, h1, R1, hE.mono t1, (PostR.bind (rel1 := DRels Z.K) p1).imp fun xs H2 hy => ?_⟩
  obtain ⟨io2, h2, d2, t2, R2, r2, p2⟩ := hy
  exact p2.here R2 (.cons (r1.mono t2) r2)
theorem s_tup {l : List ME} (h : tM Z (mTup l) st H Q) : tTup (tMA Z (mArgs l)) st H Q := by
  have hl := sizeLine_eq
  obtain ⟨io, s, h0, hR, hE, p⟩ := h
  refine ⟨io, s, h0, hR, hE, (PostR.bind (rel1 := DRels Z.K) p).imp fun x H1 hx => ?_⟩
  obtain ⟨io1, h1, d1, t1, R1, r1, p1⟩ := hx
  split at p1
  · exact ⟨by rw [r1.length]; omega, fun q hq => newTup R1 r1 p1 hq⟩
  · exact p1.elim
theorem s_lst {l : List ME} (h : tM Z (mLst l) st H Q) : tLst (tMA Z (mArgs l)) st H Q := by
  have hl := sizeLine_eq
  obtain ⟨io, s, h0, hR, hE, p⟩ := h
  refine ⟨io, s, h0, hR, hE, (PostR.bind (rel1 := DRels Z.K) p).imp fun x H1 hx => ?_⟩
  obtain ⟨io1, h1, d1, t1, R1, r1, p1⟩ := hx
  split at p1
  · exact ⟨by rw [r1.length]; omega, fun q hq => newLst R1 r1 p1 hq⟩
  · exact p1.elim
def tMO (Z : Zx) (m : MO) : TO := fun st H Q => ∃ io s h, R Z.K io h H ∧ EnvR Z.K io H st s ∧ PostR Z io H st (fun _ _ (x y : Option Int) => x = y) (m s h) Q
theorem s_oNone {QO : Option Int → Hp → Prop} (h : tMO Z oNone st H QO) : tNoPart st H QO := by
  obtain ⟨io, s, h0, hR, hE, p⟩ := h
  exact p.here hR rfl
theorem s_part {QO : Option Int → Hp → Prop} (h : tMO Z (mPart a) st H QO) : tPart (tM Z a) st H QO := by
  obtain ⟨io, s, h0, hR, hE, p⟩ := h
  refine ⟨io, s, h0, hR, hE, (PostR.bind (rel1 := DRel Z.K) p).imp fun x H1 hx => ?_⟩
  obtain ⟨io1, h1, d1, t1, R1, r1, p1⟩ := hx
  cases d1 with
  | int i => cases r1; exact ⟨i, rfl, p1.here R1 rfl⟩
  | _ => exact p1.elim
theorem s_sl {lo hi : MO} (h : tM Z (mSl a lo hi) st H Q) : tSl (rSlAny Z.K) (tM Z a) (tMO Z lo) (tMO Z hi) st H Q := by
  obtain ⟨io, s, h0, hR, hE, p⟩ := h
  refine ⟨io, s, h0, hR, hE, (PostR.bind (rel1 := DRel Z.K) p).imp fun x H1 hx => ?_⟩
  obtain ⟨io1, h1, d1, t1, R1, r1, p1⟩ := hx
  refine ⟨io1, s, h1, R1, hE.mono t1, (PostR.bind (rel1 := fun _ _ (x y : Option Int) => x = y) p1).imp fun l H2 hy => ?_⟩
  obtain ⟨io2, h2, d2, t2, R2, r2, p2⟩ := hy
  subst r2
  refine ⟨io2, s, h2, R2, (hE.mono t1).mono t2, (PostR.bind (rel1 := fun _ _ (x y : Option Int) => x = y) p2).imp fun u H3 hz => ?_⟩
  obtain ⟨io3, h3, d3, t3, R3, r3, p3⟩ := hz
  subst r3
  exact opSl_ok Z R3 ((r1.mono t2).mono t3) p3
theorem s_rev (h : tM Z (mRev a) st H Q) : tRevL Z.K (tM Z a) st H Q := by
  obtain ⟨io, s, h0, hR, hE, p⟩ := h
  refine ⟨io, s, h0, hR, hE, (PostR.bind (rel1 := DRel Z.K) p).imp fun x H1 hx => ?_⟩
  obtain ⟨io1, h1, d1, t1, R1, r1, p1⟩ := hx
  cases d1 with
  | ref n =>
    dsimp only at p1
    split at p1
    · rename_i l e
      obtain ⟨q, xs, rfl, hs, rx⟩ := listRef_rel R1 r1 e
      exact ⟨q, xs, rfl, hs, fun k hk => newLst R1 rx.rev p1 hk⟩
    · exact p1.elim
  | _ => exact p1.elim
theorem s_blt {b : Blt} {l : List ME} {r : List V → Hp → VK → Prop} (hs : CallS Z r (bltF b)) (h : tM Z (mBlt b l) st H Q) : tCB r (tMA Z (mArgs l)) st H Q := by
  obtain ⟨io, s, h0, hR, hE, p⟩ := h
  refine ⟨io, s, h0, hR, hE, (PostR.bind (rel1 := DRels Z.K) p).imp fun x H1 hx => ?_⟩
  obtain ⟨io1, h1, d1, t1, R1, r1, p1⟩ := hx
  exact hs io1 h1 H1 st x d1 Q R1 r1 p1
theorem s_meth (X : Cx) (hK : Z.K = X.K) {nm : Str} {l : List ME} (h : tM Z (mMeth nm a l) st H Q) : tMeth' X nm (tM Z a) (tMA Z (mArgs l)) st H Q := by
  obtain ⟨io, s, h0, hR, hE, p⟩ := h
  refine ⟨io, s, h0, hR, hE, (PostR.bind (rel1 := DRel Z.K) p).imp fun x H1 hx => ?_⟩
  obtain ⟨io1, h1, d1, t1, R1, r1, p1⟩ := hx
  split at p1
  · rename_i m e
    obtain ⟨T, id, r, M, ty, S⟩ := mth_ok X Z hK R1 r1 e
    refine ⟨T, id, r, M, ty, io1, s, h1, R1, hE.mono t1, (PostR.bind (rel1 := DRels Z.K) p1).imp fun y H2 hy => ?_⟩
    obtain ⟨io2, h2, d2, t2, R2, r2, p2⟩ := hy
    exact S io2 h2 H2 st x d1 y d2 Q R2 (r1.mono t2) r2 p2
  · exact p1.elim
theorem s_meth0 (X : Cx) (hK : Z.K = X.K) {nm : Str} (h : tM Z (mMeth nm a []) st H Q) : tMeth0' X nm (tM Z a) st H Q := by
  obtain ⟨io, s, h0, hR, hE, p⟩ := h
  refine ⟨io, s, h0, hR, hE, (PostR.bind (rel1 := DRel Z.K) p).imp fun x H1 hx => ?_⟩
  obtain ⟨io1, h1, d1, t1, R1, r1, p1⟩ := hx
  split at p1
  · rename_i m e
    obtain ⟨T, id, r, M, ty, S⟩ := mth_ok X Z hK R1 r1 e
    exact ⟨T, id, r, M, ty, S io1 h1 H1 st x d1 [] [] Q R1 r1 .nil p1⟩
  · exact p1.elim
theorem s_chain {r r' : R2} {f g : D → D → DH → Res D} (hs : OpS Z r f) (hg : OpS Z r' g) (h : tM Z (mChain f g a b c) st H Q) : tChain r r' (tM Z a) (tM Z b) (tM Z c) st H Q := by
  obtain ⟨io, s, h0, hR, hE, p⟩ := h
  refine ⟨io, s, h0, hR, hE, (PostR.bind (rel1 := DRel Z.K) p).imp fun x H1 hx => ?_⟩
  obtain ⟨io1, h1, d1, t1, R1, r1, p1⟩ := hx
  refine ⟨io1, s, h1, R1, hE.mono t1, (PostR.bind (rel1 := DRel Z.K) p1).imp fun y H2 hy => ?_⟩
  obtain ⟨io2, h2, d2, t2, R2, r2, p2⟩ := hy
  refine hs io2 h2 H2 st x y d1 d2 _ R2 (r1.mono t2) r2 ((PostR.bind (rel1 := DRel Z.K) (asB_post p2)).imp fun z H3 hz => ?_)
  obtain ⟨io3, h3, d3, t3, R3, r3, p3⟩ := hz
  cases d3 with
  | bl k =>
    cases r3
    refine ⟨k, rfl, ?_⟩
    cases k with
    | true =>
      rw [if_pos rfl]
      refine ⟨io3, s, h3, R3, ((hE.mono t1).mono t2).mono t3, (PostR.bind (rel1 := DRel Z.K) p3).imp fun w H4 hw => ?_⟩
      obtain ⟨io4, h4, d4, t4, R4, r4, p4⟩ := hw
      exact hg io4 h4 H4 st y w d2 d4 Q R4 ((r2.mono t3).mono t4) r4 p4
    | false => rw [if_neg Bool.false_ne_true]; exact PostR.here (rel := DRel Z.K) p3 R3 (.bl _)
  | _ => exact p3.elim
/-! tests -/
variable {QT : Bool → Hp → Prop}
theorem s_mB (h : tMT Z (mB a) st H QT) : tTest (tM Z a) st H QT := by
  obtain ⟨io, s, h0, hR, hE, p⟩ := h
  refine ⟨io, s, h0, hR, hE, (PostR.bind (rel1 := DRel Z.K) p).imp fun x H1 hx => ?_⟩
  obtain ⟨io1, h1, d1, t1, R1, r1, p1⟩ := hx
  cases d1 with
  | bl k => cases r1; exact ⟨k, rfl, p1.here R1 rfl⟩
  | _ => exact p1.elim
theorem tru_rel {io : List Addr} {h : DH} {v : V} {d : D} {k : Bool} (r : R Z.K io h H) (q : DRel Z.K io H v d) (e : truOf d h = some k) : TruV Z.K v H k := by
  have hl := sizeLine_eq
  have gen : (listOf h d).map (fun l => !l.isEmpty) = some k → TruV Z.K v H k := fun e => by
    obtain ⟨l, e1, rfl⟩ := map_inv e
    obtain ⟨a, xs, rfl, hs, rx⟩ := listOf_rel r q e1
    have eq : (!l.isEmpty) = !xs.isEmpty := by
      cases rx <;> rfl
    rcases hs with hs | hs
    · exact .inl ⟨xs, hs, eq⟩
    · exact .inr (.inl ⟨xs, hs, eq⟩)
  cases d with
  | non => cases q; cases e; exact rfl
  | bl b => cases q; cases e; exact rfl
  | int b => cases q; cases e; exact rfl
  | str b =>
    cases q
    dsimp only [truOf] at e
    split at e
    · cases e; exact ⟨by omega, rfl⟩
    · cases e
  | _ => exact gen e
theorem s_mTru (h : tMT Z (mTru a) st H QT) : (tM Z a) st H fun x H' => ∃ k, TruV Z.K x H' k ∧ QT k H' := by
  obtain ⟨io, s, h0, hR, hE, p⟩ := h
  refine ⟨io, s, h0, hR, hE, (PostR.bind (rel1 := DRel Z.K) p).imp fun x H1 hx => ?_⟩
  obtain ⟨io1, h1, d1, t1, R1, r1, p1⟩ := hx
  split at p1
  · rename_i k e
    exact ⟨k, tru_rel R1 r1 e, p1.here R1 rfl⟩
  · exact p1.elim
theorem s_notT {t : MT} (h : tMT Z (mNotT t) st H QT) : tNot (tMT Z t) st H QT := by
  obtain ⟨io, s, h0, hR, hE, p⟩ := h
  refine ⟨io, s, h0, hR, hE, (PostR.bind (rel1 := fun _ _ (b c : Bool) => b = c) p).imp fun x H1 hx => ?_⟩
  obtain ⟨io1, h1, d1, t1, R1, r1, p1⟩ := hx
  subst r1
  exact p1.here R1 rfl
theorem s_andT {t u : MT} {r : List MT} (h : tMT Z (mAndT (t :: u :: r)) st H QT) : tAnd (tMT Z t) (tMT Z (mAndT (u :: r))) st H QT := by
  obtain ⟨io, s, h0, hR, hE, p⟩ := h
  refine ⟨io, s, h0, hR, hE, (PostR.bind (rel1 := fun _ _ (b c : Bool) => b = c) p).imp fun x H1 hx => ?_⟩
  obtain ⟨io1, h1, d1, t1, R1, r1, p1⟩ := hx
  subst r1
  cases x with
  | true => rw [if_pos rfl]; exact ⟨io1, s, h1, R1, hE.mono t1, p1⟩
  | false => rw [if_neg Bool.false_ne_true]; exact PostR.here (rel := fun _ _ (b c : Bool) => b = c) p1 R1 rfl
theorem s_orT {t u : MT} {r : List MT} (h : tMT Z (mOrT (t :: u :: r)) st H QT) : tOr (tMT Z t) (tMT Z (mOrT (u :: r))) st H QT := by
  obtain ⟨io, s, h0, hR, hE, p⟩ := h
  refine ⟨io, s, h0, hR, hE, (PostR.bind (rel1 := fun _ _ (b c : Bool) => b = c) p).imp fun x H1 hx => ?_⟩
  obtain ⟨io1, h1, d1, t1, R1, r1, p1⟩ := hx
  subst r1
  cases x with
  | true => rw [if_pos rfl]; exact PostR.here (rel := fun _ _ (b c : Bool) => b = c) p1 R1 rfl
  | false => rw [if_neg Bool.false_ne_true]; exact ⟨io1, s, h1, R1, hE.mono t1, p1⟩
end
end
end PyI
-- PyJ
/-! PyJ: what a loop of the mirror walks -/
namespace PyI
open PySem PySem.Spec PyProof.Rows L2

inductive IS where
  | fix (n : Nat) (f : Nat → D) | lst (n : Nat) | enl (n : Nat) | zpl (m n : Nat) | rvl (n len : Nat)
def lstAt (h : DH) (n i : Nat) : Option (Option D) := match h[n]? with
  | some (.lst xs) => some xs[i]?
  | _ => none
def pairD : Option D → Option D → Option D
  | some x, some y => some (.tup [x, y])
  | _, _ => none
def itemAt : IS → Nat → DH → Option (Option D)
  | .fix n f, i, _ => some (if i < n then some (f i) else none)
  | .lst n, i, h => lstAt h n i
  | .enl n, i, h => (lstAt h n i).map fun o => o.map fun x => .tup [.int i, x]
  | .zpl m n, i, h => (lstAt h m i).bind fun a => (lstAt h n i).map fun b => pairD a b
  | .rvl n len, i, h => if i < len then (lstAt h n (len - 1 - i)).bind fun o => o.map some else some none
abbrev MI := DS → DH → Res IS
def isSeq (ds : List D) : IS := .fix ds.length fun i => ds.getD i .non
def isEnum (ds : List D) : IS := .fix ds.length fun i => .tup [.int i, ds.getD i .non]
def isRev (ds : List D) : IS := isSeq ds.reverse
def isStr (x : Str) : IS := .fix x.cps.size fun i => .str ⟨#[x.cps.getD i 0]⟩
def isStrE (x : Str) : IS := .fix x.cps.size fun i => .tup [.int i, .str ⟨#[x.cps.getD i 0]⟩]
def isZip (xs ys : List D) : IS := .fix (min xs.length ys.length) fun i => .tup [xs.getD i .non, ys.getD i .non]
def isRng (lo c : Int) (n : Nat) : IS := .fix n fun i => .int (lo + (i : Nat) * c)

def ItR (K : PySem.W.Frag) (io : List Addr) (H : Hp) (J : It) (src : IS) : Prop :=
  ∀ jo h' H', Step K io H jo H' → R K jo h' H' → ∀ i o, itemAt src i h' = some o → match o with
    | none => J.stop i H'
    | some d => J.go i H' ∧ ∀ x H2, J.yld i H' x H2 → Step K jo H' jo H2 ∧ R K jo h' H2 ∧ DRel K jo H2 x d
def tMI (Z : Zx) (m : MI) : TI := fun st H Rr => ∃ io s h, R Z.K io h H ∧ EnvR Z.K io H st s ∧ PostR Z io H st (ItR Z.K) (m s h) Rr

section
variable {K : PySem.W.Frag} {io jo : List Addr} {h : DH} {H H' : Hp} {J : It} {n : Nat} {G : Hp → Prop} {Y : Nat → Hp → V → Hp → Prop}
theorem ItR.mono {src : IS} (s : Step K io H jo H') (r : ItR K io H J src) : ItR K jo H' J src := fun ko h' H2 t => r ko h' H2 (s.trans t)
/-- a walk that gives told items -/
theorem itFix {f : Nat → D} (w : Walk J n G Y) (hG : ∀ jo H', Step K io H jo H' → G H')
    (hY : ∀ jo h' H' i x H2, Step K io H jo H' → R K jo h' H' → i < n → Y i H' x H2 → Step K jo H' jo H2 ∧ R K jo h' H2 ∧ DRel K jo H2 x (f i)) (stopG : ∀ i H', n ≤ i → G H' → J.stop i H') : ItR K io H J (.fix n f) := by
  intro jo h' H' s r i o e
  simp only [itemAt, Option.some.injEq] at e
  subst e
  by_cases hi : i < n
  · rw [if_pos hi]
    exact ⟨w.goes i H' hi (hG jo H' s), fun x H2 y => hY jo h' H' i x H2 s r hi (w.yields i H' x H2 hi (hG jo H' s) y)⟩
  · rw [if_neg hi]
    exact stopG i H' (Nat.le_of_not_lt hi) (hG jo H' s)
theorem getD_rel {vs : List V} {ds : List D} {i : Nat} {x : V} (r : DRels K io H vs ds) (e : vs[i]? = some x) : DRel K io H x (ds.getD i .non) := by
  obtain ⟨d, e2, q⟩ := r.getV e
  rw [List.getD_eq_getElem?_getD, e2]
  exact q
theorem pair_rel {h' : DH} {T : Addr} {x y : V} {d e : D} (r : R K io h' H) (n : H T = none) (q1 : DRel K io H x d) (q2 : DRel K io H y e) :
    Step K io H io (upd H T (.tup [x, y])) ∧ R K io h' (upd H T (.tup [x, y])) ∧ DRel K io (upd H T (.tup [x, y])) (.ref T) (.tup [d, e]) :=
  ⟨Step.put n, r.put n, .tup (.inl (.inl upd_same)) (.cons (q1.mono (Step.put n)) (.cons (q2.mono (Step.put n)) .nil))⟩
theorem it_tup {a : Addr} {xs : List V} {ds : List D} (q : SqT K H a xs) (r : DRels K io H xs ds) : ItR K io H (Itt K a) (isSeq ds) := by
  rw [isSeq, ← r.length]
  refine itFix walk_tup (fun jo H' s => s.tup a xs q) (fun jo h' H' i x H2 s r' hi y => ?_) fun i H' hi g => ⟨xs, g, hi⟩
  obtain ⟨rfl, e⟩ := y
  exact ⟨Step.refl, r', getD_rel (r.mono s) e⟩
theorem it_scr {a : Addr} {ns : List Int} (q : SqF K H a (ns.map V.int)) : ItR K io H (Itl K a) (isSeq (ns.map D.int)) := by
  rw [isSeq, ← (intsRel (K := K) (io := io) (H := H) ns).length]
  refine itFix walk_list (fun jo H' s => (s.scr a _ q).l) (fun jo h' H' i x H2 s r' hi y => ?_) fun i H' hi g => ⟨_, g, hi⟩
  obtain ⟨rfl, e⟩ := y
  exact ⟨Step.refl, r', getD_rel ((intsRel ns).mono s) e⟩
theorem it_str {x : Str} : ItR K io H (Its x) (isStr x) := by
  refine itFix walk_str (fun _ _ _ => trivial) (fun jo h' H' i v H2 s r' hi y => ?_) fun i H' hi g => hi
  obtain ⟨rfl, c, e, rfl⟩ := y
  refine ⟨Step.refl, r', ?_⟩
  have : x.cps.getD i 0 = c := by simp [Array.getD_eq_getD_getElem?, e]
  rw [this]
  exact .str _
theorem it_rngC {lo c : Int} {n : Nat} : ItR K io H (Itc lo c n) (isRng lo c n) := by
  refine itFix walk_rangeC (fun _ _ _ => trivial) (fun jo h' H' i v H2 s r' hi y => ?_) fun i H' hi g => hi
  obtain ⟨rfl, rfl⟩ := y
  exact ⟨Step.refl, r', .int _⟩
theorem it_rng {lo : Int} {n : Nat} : ItR K io H (Itr lo n) (isRng lo 1 n) := by
  refine itFix walk_range (fun _ _ _ => trivial) (fun jo h' H' i v H2 s r' hi y => ?_) fun i H' hi g => hi
  obtain ⟨rfl, rfl⟩ := y
  refine ⟨Step.refl, r', ?_⟩
  rw [Int.mul_one]
  exact .int _
theorem lstAt_inv {h' : DH} {n i : Nat} {o : Option D} (e : lstAt h' n i = some o) : ∃ ds, h'[n]? = some (.lst ds) ∧ ds[i]? = o := by
  unfold lstAt at e
  split at e
  · rename_i xs e1; cases e; exact ⟨xs, e1, rfl⟩
  · cases e
theorem lst_at {h' : DH} {a : Addr} {n : Nat} {ds : List D} (r : R K io h' H) (ea : io[n]? = some a) (e : h'[n]? = some (.lst ds)) : ∃ xs, SqL K H a xs ∧ H a = some (.lst xs) ∧ DRels K io H xs ds := by
  obtain ⟨b, e2, xs, hx, rx⟩ := r.obj n _ e
  rw [ea] at e2; cases e2
  exact ⟨xs, .inl (.inl hx), hx, rx⟩
theorem sql_det {a : Addr} {xs ys : List V} (h1 : H a = some (.lst xs)) (h2 : SqL K H a ys) (i : Nat) : (∃ zs, K.lookup a = some zs) ∨ ys = xs := by
  rcases h2 with (h2 | ⟨o, h2⟩) | ⟨o, its, n, k, _⟩
  · rw [h1] at h2; cases h2; exact .inr rfl
  · rw [h1] at h2; cases h2
  · exact .inl ⟨o, k⟩
/-- a list, walked as it stands -/
theorem it_lst {a : Addr} {n : Nat} (ea : io[n]? = some a) : ItR K io H (Itl K a) (.lst n) := by
  intro jo h' H' s r i o e
  obtain ⟨ds, e1, e2⟩ := lstAt_inv (show lstAt h' n i = some o from e)
  obtain ⟨xs, hs, hx, rx⟩ := lst_at r (s.pre n a ea) e1
  cases o with
  | none => exact ⟨xs, hs, by rw [rx.length]; exact List.getElem?_eq_none_iff.mp e2⟩
  | some d =>
    obtain ⟨v, e3, q⟩ := rx.get e2
    refine ⟨⟨xs, v, hs, e3⟩, fun x H2 y => ?_⟩
    obtain ⟨rfl, y⟩ := y
    have := y xs hs
    rw [e3] at this; cases this
    exact ⟨Step.refl, r, q⟩
theorem it_enl {a : Addr} {n : Nat} (ea : io[n]? = some a) : ItR K io H (Ite K a) (.enl n) := by
  intro jo h' H' s r i o e
  obtain ⟨p, ee, rfl⟩ := map_inv (show (lstAt h' n i).map _ = some o from e)
  obtain ⟨ds, e1, e2⟩ := lstAt_inv ee
  obtain ⟨xs, hs, hx, rx⟩ := lst_at r (s.pre n a ea) e1
  cases p with
  | none => exact ⟨xs, hs, by rw [rx.length]; exact List.getElem?_eq_none_iff.mp e2⟩
  | some d =>
    obtain ⟨v, e3, q⟩ := rx.get e2
    refine ⟨⟨xs, v, hs, e3⟩, fun x H2 y => ?_⟩
    obtain ⟨T, z, rfl, hT, rfl, y⟩ := y
    have := y xs hs
    rw [e3] at this; cases this
    exact pair_rel r hT (.int _) q
theorem it_rvl {a : Addr} {n len : Nat} (ea : io[n]? = some a) : ItR K io H (Itv K a len) (.rvl n len) := by
  intro jo h' H' s r i o e
  simp only [itemAt] at e
  split at e
  · rename_i hi
    obtain ⟨p, ee, e0⟩ := bind_inv e
    obtain ⟨d, rfl, rfl⟩ := map_inv e0
    obtain ⟨ds, e1, e2⟩ := lstAt_inv ee
    obtain ⟨xs, hs, hx, rx⟩ := lst_at r (s.pre n a ea) e1
    obtain ⟨v, e3, q⟩ := rx.get e2
    refine ⟨⟨hi, xs, v, hs, e3⟩, fun x H2 y => ?_⟩
    obtain ⟨rfl, y⟩ := y
    have := y xs hs
    rw [e3] at this; cases this
    exact ⟨Step.refl, r, q⟩
  · rename_i hi
    cases e
    exact Nat.le_of_not_lt hi
theorem it_zpl {a b : Addr} {m n : Nat} (ea : io[m]? = some a) (eb : io[n]? = some b) : ItR K io H (Itz K a b) (.zpl m n) := by
  intro jo h' H' s r i o e
  obtain ⟨p, ee, e0⟩ := bind_inv (show (lstAt h' m i).bind _ = some o from e)
  obtain ⟨p2, f, rfl⟩ := map_inv e0
  obtain ⟨ds, e1, e2⟩ := lstAt_inv ee
  obtain ⟨xs, hs, hx, rx⟩ := lst_at r (s.pre m a ea) e1
  obtain ⟨ds', f1, f2⟩ := lstAt_inv f
  obtain ⟨ys, hs', hy, ry⟩ := lst_at r (s.pre n b eb) f1
  cases p with
  | none => exact ⟨xs, ys, hs, hs', .inl (by rw [rx.length]; exact List.getElem?_eq_none_iff.mp e2)⟩
  | some d =>
    cases p2 with
    | none => exact ⟨xs, ys, hs, hs', .inr (by rw [ry.length]; exact List.getElem?_eq_none_iff.mp f2)⟩
    | some d' =>
      obtain ⟨v, e3, q⟩ := rx.get e2
      obtain ⟨v', f3, q'⟩ := ry.get f2
      refine ⟨⟨xs, ys, v, v', hs, hs', e3, f3⟩, fun x H2 y => ?_⟩
      obtain ⟨T, z, z', rfl, hT, rfl, y, y'⟩ := y
      have := y xs hs
      rw [e3] at this; cases this
      have := y' ys hs'
      rw [f3] at this; cases this
      exact pair_rel r hT q q'
theorem it_zipT {a b : Addr} {xs ys : List V} {ds es : List D} (q : SqT K H a xs) (q' : SqT K H b ys) (r : DRels K io H xs ds) (r' : DRels K io H ys es) : ItR K io H (RZ.ItzT K a b) (isZip ds es) := by
  intro jo h' H' s rr i o e
  simp only [itemAt, isZip, Option.some.injEq] at e
  subst e
  have hq := s.tup a xs q
  have hq' := s.tup b ys q'
  have l1 := r.length
  have l2 := r'.length
  by_cases hi : i < min ds.length es.length
  · rw [if_pos hi]
    have h1 : xs[i]? = some (xs[i]'(by omega)) := List.getElem?_eq_getElem _
    have h2 : ys[i]? = some (ys[i]'(by omega)) := List.getElem?_eq_getElem _
    refine ⟨⟨xs, ys, _, _, hq, hq', h1, h2⟩, fun x H2 y => ?_⟩
    obtain ⟨T, z, z', rfl, hT, rfl, y, y'⟩ := y
    have := y xs hq
    rw [h1] at this; cases this
    have := y' ys hq'
    rw [h2] at this; cases this
    exact pair_rel rr hT (getD_rel (r.mono s) h1) (getD_rel (r'.mono s) h2)
  · rw [if_neg hi]
    exact ⟨xs, ys, hq, hq', by omega⟩
theorem it_revT {a : Addr} {xs : List V} {ds : List D} (q : SqT K H a xs) (r : DRels K io H xs ds) : ItR K io H (RT.ItvT K a xs.length) (isRev ds) := by
  intro jo h' H' s rr i o e
  have l1 := r.length
  simp only [itemAt, isRev, isSeq, List.length_reverse, Option.some.injEq] at e
  subst e
  have hq := s.tup a xs q
  by_cases hi : i < ds.length
  · rw [if_pos hi]
    have h1 : xs[xs.length - 1 - i]? = some (xs[xs.length - 1 - i]'(by omega)) := List.getElem?_eq_getElem _
    refine ⟨⟨by omega, xs, _, hq, h1⟩, fun x H2 y => ?_⟩
    obtain ⟨rfl, y⟩ := y
    have := y xs hq
    rw [h1] at this; cases this
    refine ⟨Step.refl, rr, ?_⟩
    have e : ds.reverse.getD i .non = ds.getD (xs.length - 1 - i) .non := by
      rw [List.getD_eq_getElem?_getD, List.getD_eq_getElem?_getD, List.getElem?_reverse hi, l1]
    rw [e]
    exact getD_rel (r.mono s) h1
  · rw [if_neg hi]
    show xs.length ≤ i
    omega
theorem it_revS {a : Addr} {ns : List Int} (q : SqF K H a (ns.map V.int)) : ItR K io H (Itv K a (ns.map V.int).length) (isRev (ns.map D.int)) := by
  intro jo h' H' s rr i o e
  have r := intsRel (K := K) (io := io) (H := H) ns
  have l1 := r.length
  simp only [itemAt, isRev, isSeq, List.length_reverse, Option.some.injEq] at e
  subst e
  have hq := (s.scr a _ q).l
  by_cases hi : i < (ns.map D.int).length
  · rw [if_pos hi]
    have h1 : (ns.map V.int)[(ns.map V.int).length - 1 - i]? = some ((ns.map V.int)[(ns.map V.int).length - 1 - i]'(by omega)) := List.getElem?_eq_getElem _
    refine ⟨⟨by omega, _, _, hq, h1⟩, fun x H2 y => ?_⟩
    obtain ⟨rfl, y⟩ := y
    have := y _ hq
    rw [h1] at this; cases this
    refine ⟨Step.refl, rr, ?_⟩
    have e : (ns.map D.int).reverse.getD i .non = (ns.map D.int).getD ((ns.map V.int).length - 1 - i) .non := by
      rw [List.getD_eq_getElem?_getD, List.getD_eq_getElem?_getD, List.getElem?_reverse hi, l1]
    rw [e]
    exact getD_rel (r.mono s) h1
  · rw [if_neg hi]
    show (ns.map V.int).length ≤ i
    omega
theorem it_enumG {xs : List V} {ds : List D} {GG : Hp → Prop} (hG : ∀ jo H', Step K io H jo H' → GG H') (r : DRels K io H xs ds) : ItR K io H (IteG xs.length (fun i x => xs[i]? = some x) GG) (isEnum ds) := by
  intro jo h' H' s rr i o e
  have l1 := r.length
  simp only [itemAt, isEnum, Option.some.injEq] at e
  subst e
  have hq := hG jo H' s
  by_cases hi : i < ds.length
  · rw [if_pos hi]
    refine ⟨⟨by omega, hq⟩, fun x H2 y => ?_⟩
    obtain ⟨T, z, rfl, hT, rfl, y⟩ := y
    exact pair_rel rr hT (.int _) (getD_rel (r.mono s) y)
  · rw [if_neg hi]
    exact ⟨by omega, hq⟩
theorem it_enumStr {x : Str} : ItR K io H (IteG x.cps.size (fun i v => ∃ c, x.cps[i]? = some c ∧ v = .str ⟨#[c]⟩) fun _ => True) (isStrE x) := by
  intro jo h' H' s rr i o e
  simp only [itemAt, isStrE, Option.some.injEq] at e
  subst e
  by_cases hi : i < x.cps.size
  · rw [if_pos hi]
    refine ⟨⟨hi, trivial⟩, fun v H2 y => ?_⟩
    obtain ⟨T, z, rfl, hT, rfl, c, y, rfl⟩ := y
    have : x.cps.getD i 0 = c := by simp [Array.getD_eq_getD_getElem?, y]
    rw [this]
    exact pair_rel rr hT (.int _) (.str _)
  · rw [if_neg hi]
    exact ⟨by omega, trivial⟩
theorem enumScr {a : Addr} {ns : List Int} (q : SqF K H a (ns.map V.int)) : ItR K io H (Ite K a) (isEnum (ns.map D.int)) := by
  intro jo h' H' s rr i o e
  have r := intsRel (K := K) (io := io) (H := H) ns
  have l1 := r.length
  simp only [itemAt, isEnum, Option.some.injEq] at e
  subst e
  have hq := (s.scr a _ q).l
  by_cases hi : i < (ns.map D.int).length
  · rw [if_pos hi]
    have h1 : (ns.map V.int)[i]? = some ((ns.map V.int)[i]'(by omega)) := List.getElem?_eq_getElem _
    refine ⟨⟨_, _, hq, h1⟩, fun x H2 y => ?_⟩
    obtain ⟨T, z, rfl, hT, rfl, y⟩ := y
    have := y _ hq
    rw [h1] at this; cases this
    exact pair_rel rr hT (.int _) (getD_rel (r.mono s) h1)
  · rw [if_neg hi]
    exact ⟨_, hq, by omega⟩
end
end PyI
-- PyK
/-! PyK: the mirror's iterators and their readings -/
namespace PyI
noncomputable section
open PySem PySem.Spec PyProof.Rows L2

def iAny (K : PySem.W.Frag) (te : TE) : TI := fun st H Rr => te st H fun x H1 => (∃ a xs, x = .ref a ∧ SqL K H1 a xs ∧ Rr (Itl K a) H1) ∨ (∃ a xs, x = .ref a ∧ SqT K H1 a xs ∧ Rr (Itt K a) H1) ∨ ∃ y, x = .str y ∧ Rr (Its y) H1
theorem pi_any {X : Cx} {tg e : Expr} {te : TE} (he : PE X e te) : PI X tg e (iAny X.K te) := ⟨fun pins s st H Rr I h => thn (he.run pins s st H _ I h) fun v s1 ⟨x, H1, I1, r1, q1⟩ => by
  rcases q1 with ⟨a, xs, rfl, hq, q⟩ | ⟨a, xs, rfl, hq, q⟩ | ⟨y, rfl, q⟩
  · obtain rfl : v = Value.ref a := r1
    obtain ⟨its, rv, p, hz⟩ := I1.list hq
    exact wpAny_pyIter_list p.isList (pi_one (tk := s1.toks) I1 _ (turn_list a _) ⟨_, Heap.get?_push_size _ rfl, rfl, rfl⟩ q)
  · obtain rfl : v = Value.ref a := r1
    obtain ⟨its, rv, p, hz⟩ := I1.tuple hq
    exact wpAny_pyIter_tuple (show s1.heap.IsTuple a its.toArray from p) (pi_one (tk := s1.toks) I1 _ (turn_tuple a _) ⟨_, Heap.get?_push_size _ rfl, rfl, rfl⟩ q)
  · obtain ⟨t, rfl⟩ := r1
    cases ha : y.cps.all (· < 128) with
    | false => exact wpAny_pyIter_wide ha (pi_one (tk := s1.toks) I1 _ (turn_str _ y t "str_iterator" (.inr rfl)) ⟨_, Heap.get?_push_size _ rfl, rfl, rfl⟩ q)
    | true => exact wpAny_pyIter_ascii ha (pi_one (tk := s1.toks) I1 _ (turn_str _ y t "str_ascii_iterator" (.inl rfl)) ⟨_, Heap.get?_push_size _ rfl, rfl, rfl⟩ q)⟩

def retI (o : Option IS) (h : DH) : Res IS := match o with
  | some i => .ok i h
  | none => .no
def isLst (h : DH) (n : Nat) : Bool := match h[n]? with
  | some (.lst _) => true
  | _ => false
def srcOf (x : D) (h : DH) : Option IS := match x with
  | .tup ds => some (isSeq ds)
  | .scr ns => some (isSeq (ns.map .int))
  | .str x => some (isStr x)
  | .ref n => if isLst h n then some (.lst n) else none
  | _ => none
def iPlain (a : ME) : MI := fun s h => (a s h).bind fun x h1 => retI (srcOf x h1) h1
def smallI (i : Int) : Bool := decide (-hid 4611686018427387904 ≤ i) && decide (i < hid 4611686018427387904)
def rngOf1 : List D → Option IS
  | [.int j] => if smallI j then some (isRng 0 1 j.toNat) else none
  | _ => none
def rngOf2 : List D → Option IS
  | [.int i, .int j] => if smallI i && smallI j then some (isRng i 1 (j - i).toNat) else none
  | _ => none
def rngOf3 : List D → Option IS
  | [.int i, .int j, .int c] => if decide (c ≠ 0) && decide (c.natAbs < 1073741824) && Builtin.Range.small i j c && decide (0 ≤ Builtin.Range.rangeSize i j c) then some (isRng i c (Builtin.Range.rangeSize i j c).toNat) else none
  | _ => none
def iRange (f : List D → Option IS) (l : List ME) : MI := fun s h => (mArgs l s h).bind fun xs h1 => retI (f xs) h1
def enumOf (h : DH) : D → Option IS
  | .tup ds => some (isEnum ds)
  | .scr ns => some (isEnum (ns.map .int))
  | .str x => some (isStrE x)
  | .ref n => if isLst h n then some (.enl n) else none
  | _ => none
def iEnumM (a : ME) : MI := fun s h => (a s h).bind fun x h1 => retI (enumOf h1 x) h1
def zipOf (h : DH) : D → D → Option IS
  | .tup ds, .tup es => some (isZip ds es)
  | .ref m, .ref n => if isLst h m && isLst h n then some (.zpl m n) else none
  | _, _ => none
def iZipM (a b : ME) : MI := fun s h => (a s h).bind fun x h1 => (b s h1).bind fun y h2 => retI (zipOf h2 x y) h2
def revOf (h : DH) : D → Option IS
  | .tup ds => some (isRev ds)
  | .scr ns => some (isRev (ns.map .int))
  | .ref n => match h[n]? with
    | some (.lst xs) => some (.rvl n xs.length)
    | _ => none
  | _ => none
def iRevM (a : ME) : MI := fun s h => (a s h).bind fun x h1 => retI (revOf h1 x) h1
def rgArg : List D → Option (Int × Int)
  | [.int j] => some (0, j)
  | [.int i, .int j] => some (i, j)
  | _ => none
def iRevRg (l : List ME) : MI := fun s h => (mArgs l s h).bind fun xs h1 => match rgArg xs with
  | some (a, b) => if smallI a && smallI b then .ok (isRng (a + (((b - a).toNat : Nat) : Int) - 1) (-1) (b - a).toNat) h1 else .no
  | none => .no

section
variable {Z : Zx} {st : L2.St} {H : Hp} {Rr : It → Hp → Prop} {a b c : ME}
theorem retI_post {io : List Addr} {h : DH} {o : Option IS} {Rr : It → Hp → Prop} (p : PostR Z io H st (ItR Z.K) (retI o h) Rr) : ∃ i, o = some i ∧ PostR Z io H st (ItR Z.K) (.ok i h) Rr := by
  cases o with
  | some i => exact ⟨i, rfl, p⟩
  | none => exact p.elim
theorem isLst_inv {h : DH} {n : Nat} (e : isLst h n = true) : ∃ xs, h[n]? = some (.lst xs) := by
  unfold isLst at e
  split at e
  · rename_i xs q; exact ⟨xs, q⟩
  · cases e
theorem lst_here {K : PySem.W.Frag} {io : List Addr} {h : DH} {v : V} {n : Nat} (r : R K io h H) (q : DRel K io H v (.ref n)) (e : isLst h n = true) : ∃ p xs, v = .ref p ∧ io[n]? = some p ∧ SqL K H p xs := by
  obtain ⟨ds, e1⟩ := isLst_inv e
  obtain ⟨p, xs, rfl, ei, hx, rx⟩ := r.isLst q e1
  exact ⟨p, xs, rfl, ei, .inl (.inl hx)⟩
theorem s_iPlain (h : tMI Z (iPlain a) st H Rr) : iAny Z.K (tM Z a) st H Rr := by
  obtain ⟨io, s, h0, hR, hE, p⟩ := h
  refine ⟨io, s, h0, hR, hE, (PostR.bind (rel1 := DRel Z.K) p).imp fun x H1 hx => ?_⟩
  obtain ⟨io1, h1, d1, t1, R1, r1, p1⟩ := hx
  obtain ⟨i, e, p1⟩ := retI_post p1
  cases d1 with
  | tup ds =>
    cases e
    obtain ⟨q, xs, rfl, hs, rx⟩ := r1.tupInv
    exact .inr (.inl ⟨q, xs, rfl, hs, p1.here R1 (it_tup hs rx)⟩)
  | scr ns =>
    cases e
    cases r1 with
    | scr hs => exact .inl ⟨_, _, rfl, hs.l, p1.here R1 (it_scr hs)⟩
  | str y =>
    cases e
    cases r1
    exact .inr (.inr ⟨y, rfl, p1.here R1 it_str⟩)
  | ref n =>
    simp only [srcOf] at e
    split at e
    · rename_i hl
      cases e
      obtain ⟨q, xs, rfl, ei, hs⟩ := lst_here R1 r1 hl
      exact .inl ⟨q, xs, rfl, hs, p1.here R1 (it_lst ei)⟩
    · cases e
  | _ => cases e
theorem smallI_inv {i : Int} (h : smallI i = true) : -(2 ^ 62) ≤ i ∧ i < 2 ^ 62 := by
  unfold smallI at h
  rw [hid_eq] at h
  simp only [Bool.and_eq_true, decide_eq_true_eq] at h
  omega
theorem ints1 {io : List Addr} {vs : List V} {i : Int} (r : DRels Z.K io H vs [.int i]) : vs = [.int i] := by
  cases r with
  | cons a t => cases a; cases t; rfl
theorem ints2 {io : List Addr} {vs : List V} {i j : Int} (r : DRels Z.K io H vs [.int i, .int j]) : vs = [.int i, .int j] := by
  cases r with
  | cons a t => cases a; rw [ints1 t]
theorem ints3 {io : List Addr} {vs : List V} {i j k : Int} (r : DRels Z.K io H vs [.int i, .int j, .int k]) : vs = [.int i, .int j, .int k] := by
  cases r with
  | cons a t => cases a; rw [ints2 t]
theorem rangeM {f : List D → Option IS} {l : List ME} (h : tMI Z (iRange f l) st H Rr) : (tMA Z (mArgs l)) st H fun vs H1 => ∃ io ds h1 i, R Z.K io h1 H1 ∧ DRels Z.K io H1 vs ds ∧ f ds = some i ∧ PostR Z io H1 st (ItR Z.K) (.ok i h1) Rr := by
  obtain ⟨io, s, h0, hR, hE, p⟩ := h
  refine ⟨io, s, h0, hR, hE, (PostR.bind (rel1 := DRels Z.K) p).imp fun x H1 hx => ?_⟩
  obtain ⟨io1, h1, d1, t1, R1, r1, p1⟩ := hx
  obtain ⟨i, e, p1⟩ := retI_post p1
  exact ⟨io1, d1, h1, i, R1, r1, e, p1⟩
theorem tMA.imp {m : MA} {QA QA' : List V → Hp → Prop} (h : tMA Z m st H QA) (w : ∀ vs H1, QA vs H1 → QA' vs H1) : tMA Z m st H QA' := by
  obtain ⟨io, s, h0, hR, hE, p⟩ := h
  exact ⟨io, s, h0, hR, hE, p.imp w⟩
theorem s_range1 (h : tMI Z (iRange rngOf1 [a]) st H Rr) : iRng1 (tMA Z (mArgs [a])) st H Rr := by
  refine tMA.imp (rangeM h) fun vs H1 hx => ?_
  obtain ⟨io, ds, h1, i, R1, r1, e, p1⟩ := hx
  unfold rngOf1 at e
  split at e
  · rename_i j
    split at e
    · rename_i hs
      cases e
      rw [ints1 r1]
      exact ⟨j, rfl, (smallI_inv hs).1, (smallI_inv hs).2, p1.here R1 it_rng⟩
    · cases e
  · cases e
theorem s_range2 (h : tMI Z (iRange rngOf2 [a, b]) st H Rr) : iRng2 (tMA Z (mArgs [a, b])) st H Rr := by
  refine tMA.imp (rangeM h) fun vs H1 hx => ?_
  obtain ⟨io, ds, h1, i, R1, r1, e, p1⟩ := hx
  unfold rngOf2 at e
  split at e
  · rename_i u v
    split at e
    · rename_i hs
      cases e
      simp only [Bool.and_eq_true] at hs
      rw [ints2 r1]
      exact ⟨u, v, rfl, ⟨(smallI_inv hs.1).1, (smallI_inv hs.1).2, (smallI_inv hs.2).1, (smallI_inv hs.2).2⟩, p1.here R1 it_rng⟩
    · cases e
  · cases e
theorem s_range3 (h : tMI Z (iRange rngOf3 [a, b, c]) st H Rr) : iRng3 (tMA Z (mArgs [a, b, c])) st H Rr := by
  refine tMA.imp (rangeM h) fun vs H1 hx => ?_
  obtain ⟨io, ds, h1, i, R1, r1, e, p1⟩ := hx
  unfold rngOf3 at e
  split at e
  · rename_i u v w
    split at e
    · rename_i hs
      cases e
      simp only [Bool.and_eq_true, decide_eq_true_eq] at hs
      rw [ints3 r1]
      exact ⟨u, v, w, _, rfl, ⟨hs.1.1.1, hs.1.1.2, hs.1.2, by omega⟩, p1.here R1 it_rngC⟩
    · cases e
  · cases e
/-- one value, then what it walks -/
theorem oneM {f : DH → D → Option IS} (h : tMI Z (fun s h => (a s h).bind fun x h1 => retI (f h1 x) h1) st H Rr) : tM Z a st H fun v H1 => ∃ io d h1 i, R Z.K io h1 H1 ∧ DRel Z.K io H1 v d ∧ f h1 d = some i ∧ PostR Z io H1 st (ItR Z.K) (.ok i h1) Rr := by
  obtain ⟨io, s, h0, hR, hE, p⟩ := h
  refine ⟨io, s, h0, hR, hE, (PostR.bind (rel1 := DRel Z.K) p).imp fun x H1 hx => ?_⟩
  obtain ⟨io1, h1, d1, t1, R1, r1, p1⟩ := hx
  obtain ⟨i, e, p1⟩ := retI_post p1
  exact ⟨io1, d1, h1, i, R1, r1, e, p1⟩
theorem s_enum (h : tMI Z (iEnumM a) st H Rr) : iEnumA Z.K (tCons (tM Z a) tNil) st H Rr := by
  obtain ⟨io, s, h0, hR, hE, p⟩ := oneM (f := enumOf) h
  refine ⟨io, s, h0, hR, hE, p.imp fun v H1 hx => ?_⟩
  obtain ⟨io, d, h1, i, R1, r1, e, p1⟩ := hx
  cases d with
  | tup ds =>
    cases e
    obtain ⟨q, xs, rfl, hs, rx⟩ := r1.tupInv
    exact .inr (.inl ⟨q, xs, rfl, hs, p1.here R1 (it_enumG (fun jo H' s => s.tup q xs hs) rx)⟩)
  | scr ns =>
    cases e
    cases r1 with
    | scr hs => exact .inl ⟨_, _, rfl, hs.l, p1.here R1 (enumScr hs)⟩
  | str y =>
    cases e
    cases r1
    exact .inr (.inr ⟨y, rfl, p1.here R1 it_enumStr⟩)
  | ref n =>
    simp only [enumOf] at e
    split at e
    · rename_i hl
      cases e
      obtain ⟨q, xs, rfl, ei, hs⟩ := lst_here R1 r1 hl
      exact .inl ⟨q, xs, rfl, hs, p1.here R1 (it_enl ei)⟩
    · cases e
  | _ => cases e
theorem s_revA (h : tMI Z (iRevM a) st H Rr) : RT.iRevA Z.K (tM Z a) st H Rr := by
  obtain ⟨io, s, h0, hR, hE, p⟩ := oneM (f := revOf) h
  refine ⟨io, s, h0, hR, hE, p.imp fun v H1 hx => ?_⟩
  obtain ⟨io, d, h1, i, R1, r1, e, p1⟩ := hx
  cases d with
  | tup ds =>
    cases e
    obtain ⟨q, xs, rfl, hs, rx⟩ := r1.tupInv
    exact ⟨q, xs, rfl, .inr ⟨hs, p1.here R1 (it_revT hs rx)⟩⟩
  | scr ns =>
    cases e
    cases r1 with
    | scr hs => exact ⟨_, _, rfl, .inl ⟨hs.l, p1.here R1 (it_revS hs)⟩⟩
  | ref n =>
    simp only [revOf] at e
    split at e
    · rename_i xs hl
      cases e
      obtain ⟨q, ys, rfl, ei, hx, rx⟩ := R1.isLst r1 hl
      refine ⟨q, ys, rfl, .inl ⟨.inl (.inl hx), p1.here R1 ?_⟩⟩
      rw [rx.length]
      exact it_rvl ei
    · cases e
  | _ => cases e
theorem s_zip (h : tMI Z (iZipM a b) st H Rr) : RZ.iZipA Z.K (tCons (tM Z a) (tCons (tM Z b) tNil)) st H Rr := by
  obtain ⟨io, s, h0, hR, hE, p⟩ := h
  refine ⟨io, s, h0, hR, hE, (PostR.bind (rel1 := DRel Z.K) p).imp fun x H1 hx => ?_⟩
  obtain ⟨io1, h1, d1, t1, R1, r1, p1⟩ := hx
  refine ⟨io1, s, h1, R1, hE.mono t1, (PostR.bind (rel1 := DRel Z.K) p1).imp fun y H2 hy => ?_⟩
  obtain ⟨io2, h2, d2, t2, R2, r2, p2⟩ := hy
  obtain ⟨i, e, p2⟩ := retI_post p2
  have r1 := r1.mono t2
  unfold zipOf at e
  split at e
  · cases e
    obtain ⟨q, xs, rfl, hs, rx⟩ := r1.tupInv
    obtain ⟨q2, ys, rfl, hs2, ry⟩ := r2.tupInv
    exact ⟨q, q2, xs, ys, rfl, .inr ⟨hs, hs2, p2.here R2 (it_zipT hs hs2 rx ry)⟩⟩
  · split at e
    · rename_i hl
      cases e
      simp only [Bool.and_eq_true] at hl
      obtain ⟨q, xs, rfl, ei, hs⟩ := lst_here R2 r1 hl.1
      obtain ⟨q2, ys, rfl, ei2, hs2⟩ := lst_here R2 r2 hl.2
      exact ⟨q, q2, xs, ys, rfl, .inl ⟨hs, hs2, p2.here R2 (it_zpl ei ei2)⟩⟩
    · cases e
  · cases e
/-- reversed(range(..)), list(range(..)), tuple(range(..)) -/
theorem revRgM {l : List ME} (h : tMI Z (iRevRg l) st H Rr) : (tMA Z (mArgs l)) st H fun vs H1 => ∃ io ds h1 u v, R Z.K io h1 H1 ∧ DRels Z.K io H1 vs ds ∧ rgArg ds = some (u, v) ∧ smallI u = true ∧ smallI v = true ∧
    PostR Z io H1 st (ItR Z.K) (.ok (isRng (u + (((v - u).toNat : Nat) : Int) - 1) (-1) (v - u).toNat) h1) Rr := by
  obtain ⟨io, s, h0, hR, hE, p⟩ := h
  refine ⟨io, s, h0, hR, hE, (PostR.bind (rel1 := DRels Z.K) p).imp fun x H1 hx => ?_⟩
  obtain ⟨io1, h1, d1, t1, R1, r1, p1⟩ := hx
  split at p1
  · rename_i u v e
    split at p1
    · rename_i hs
      simp only [Bool.and_eq_true] at hs
      exact ⟨io1, d1, h1, u, v, R1, r1, e, hs.1, hs.2, p1⟩
    · exact p1.elim
  · exact p1.elim
theorem tM.imp {m : ME} {Q Q' : VK} (h : tM Z m st H Q) (w : ∀ v H1, Q v H1 → Q' v H1) : tM Z m st H Q' := by
  obtain ⟨io, s, h0, hR, hE, p⟩ := h
  exact ⟨io, s, h0, hR, hE, p.imp w⟩
theorem args1 {QA : List V → Hp → Prop} (h : tMA Z (mArgs [a]) st H QA) : tM Z a st H fun x H1 => QA [x] H1 := tM.imp (s_cons h) fun _ _ q => s_nil q
theorem args2 {QA : List V → Hp → Prop} (h : tMA Z (mArgs [a, b]) st H QA) : tM Z a st H fun x H1 => tM Z b st H1 fun y H2 => QA [x, y] H2 :=
  tM.imp (s_cons h) fun _ _ q => tM.imp (s_cons q) fun _ _ q => s_nil q
theorem rgArg1 {io : List Addr} {x : V} {ds : List D} {u v : Int} (r : DRels Z.K io H [x] ds) (e : rgArg ds = some (u, v)) : u = 0 ∧ x = .int v := by
  cases r with
  | cons q t =>
    cases t
    unfold rgArg at e
    split at e
    · rename_i j q2
      cases e
      cases q2
      cases q
      exact ⟨rfl, rfl⟩
    · rename_i q2; cases q2
    · cases e
theorem rgArg2 {io : List Addr} {x y : V} {ds : List D} {u v : Int} (r : DRels Z.K io H [x, y] ds) (e : rgArg ds = some (u, v)) : x = .int u ∧ y = .int v := by
  cases r with
  | cons q t =>
    cases t with
    | cons q' t =>
      cases t
      unfold rgArg at e
      split at e
      · rename_i q2; cases q2
      · rename_i q2
        cases e
        cases q2
        cases q
        cases q'
        exact ⟨rfl, rfl⟩
      · cases e
theorem s_revRg1 (h : tMI Z (iRevRg [a]) st H Rr) : iRevR (tRg1 (tM Z a)) st H Rr := tM.imp (args1 (revRgM h)) fun x H1 hx => by
  obtain ⟨io, ds, h1, u, v, R1, r1, e, s1, s2, p1⟩ := hx
  obtain ⟨rfl, rfl⟩ := rgArg1 r1 e
  exact ⟨v, rfl, (smallI_inv s1).1, (smallI_inv s1).2, (smallI_inv s2).1, (smallI_inv s2).2, p1.here R1 it_rngC⟩
theorem s_revRg2 (h : tMI Z (iRevRg [a, b]) st H Rr) : iRevR (tRg2 (tM Z a) (tM Z b)) st H Rr := tM.imp (args2 (revRgM h)) fun x H1 hx => tM.imp hx fun y H2 hx => by
  obtain ⟨io, ds, h1, u, v, R1, r1, e, s1, s2, p1⟩ := hx
  obtain ⟨rfl, rfl⟩ := rgArg2 r1 e
  exact ⟨u, v, rfl, rfl, (smallI_inv s1).1, (smallI_inv s1).2, (smallI_inv s2).1, (smallI_inv s2).2, p1.here R1 it_rngC⟩
end
def rgD (u v : Int) : List D := (List.range (v - u).toNat).map fun i => D.int (u + (i : Nat))
def rgOk (u v : Int) : Bool := smallI u && smallI v && decide ((v - u).toNat ≤ 16777216)
def mLstRg (l : List ME) : ME := fun s h => (mArgs l s h).bind fun xs h1 => match rgArg xs with
  | some (u, v) => if rgOk u v then .ok (.ref h1.length) (h1 ++ [.lst (rgD u v)]) else .no
  | none => .no
def mTupRg (l : List ME) : ME := fun s h => (mArgs l s h).bind fun xs h1 => match rgArg xs with
  | some (u, v) => if rgOk u v then .ok (.tup (rgD u v)) h1 else .no
  | none => .no
section
variable {Z : Zx} {st : L2.St} {H : Hp} {Q : VK} {a b c : ME}
theorem rg_rel {io : List Addr} (u v : Int) : DRels Z.K io H (rgV u v) (rgD u v) := by
  unfold rgV rgD
  induction List.range (v - u).toNat with
  | nil => exact .nil
  | cons x l ih => exact .cons (.int _) ih
theorem rgOk_inv {u v : Int} (h : rgOk u v = true) : RgOk u v := by
  unfold rgOk at h
  simp only [Bool.and_eq_true, decide_eq_true_eq] at h
  have h1 := smallI_inv h.1.1
  have h2 := smallI_inv h.1.2
  exact ⟨h1.1, h1.2, h2.1, h2.2, by omega⟩
theorem lstRgM {l : List ME} (h : tM Z (mLstRg l) st H Q) : (tMA Z (mArgs l)) st H fun vs H1 => ∃ io ds h1 u v, R Z.K io h1 H1 ∧ DRels Z.K io H1 vs ds ∧ rgArg ds = some (u, v) ∧ RgOk u v ∧
    PostR Z io H1 st (DRel Z.K) (.ok (.ref h1.length) (h1 ++ [.lst (rgD u v)])) Q := by
  obtain ⟨io, s, h0, hR, hE, p⟩ := h
  refine ⟨io, s, h0, hR, hE, (PostR.bind (rel1 := DRels Z.K) p).imp fun x H1 hx => ?_⟩
  obtain ⟨io1, h1, d1, t1, R1, r1, p1⟩ := hx
  split at p1
  · rename_i u v e
    split at p1
    · rename_i hs
      exact ⟨io1, d1, h1, u, v, R1, r1, e, rgOk_inv hs, p1⟩
    · exact p1.elim
  · exact p1.elim
theorem tupRgM {l : List ME} (h : tM Z (mTupRg l) st H Q) : (tMA Z (mArgs l)) st H fun vs H1 => ∃ io ds h1 u v, R Z.K io h1 H1 ∧ DRels Z.K io H1 vs ds ∧ rgArg ds = some (u, v) ∧ RgOk u v ∧
    PostR Z io H1 st (DRel Z.K) (.ok (.tup (rgD u v)) h1) Q := by
  obtain ⟨io, s, h0, hR, hE, p⟩ := h
  refine ⟨io, s, h0, hR, hE, (PostR.bind (rel1 := DRels Z.K) p).imp fun x H1 hx => ?_⟩
  obtain ⟨io1, h1, d1, t1, R1, r1, p1⟩ := hx
  split at p1
  · rename_i u v e
    split at p1
    · rename_i hs
      exact ⟨io1, d1, h1, u, v, R1, r1, e, rgOk_inv hs, p1⟩
    · exact p1.elim
  · exact p1.elim
theorem s_lstRg1 (h : tM Z (mLstRg [a]) st H Q) : tLstRg (tRg1 (tM Z a)) st H Q := tM.imp (args1 (lstRgM h)) fun x H1 hx => by
  obtain ⟨io, ds, h1, u, v, R1, r1, e, ok, p1⟩ := hx
  obtain ⟨rfl, rfl⟩ := rgArg1 r1 e
  exact ⟨v, rfl, ok, fun q hq => newLst R1 (rg_rel 0 v) p1 hq⟩
theorem s_lstRg2 (h : tM Z (mLstRg [a, b]) st H Q) : tLstRg (tRg2 (tM Z a) (tM Z b)) st H Q := tM.imp (args2 (lstRgM h)) fun x H1 hx => tM.imp hx fun y H2 hx => by
  obtain ⟨io, ds, h1, u, v, R1, r1, e, ok, p1⟩ := hx
  obtain ⟨rfl, rfl⟩ := rgArg2 r1 e
  exact ⟨u, v, rfl, rfl, ok, fun q hq => newLst R1 (rg_rel u v) p1 hq⟩
theorem s_tupRg1 (h : tM Z (mTupRg [a]) st H Q) : tTupRg (tRg1 (tM Z a)) st H Q := tM.imp (args1 (tupRgM h)) fun x H1 hx => by
  obtain ⟨io, ds, h1, u, v, R1, r1, e, ok, p1⟩ := hx
  obtain ⟨rfl, rfl⟩ := rgArg1 r1 e
  exact ⟨v, rfl, ok, fun q hq => newTup R1 (rg_rel 0 v) p1 hq⟩
theorem s_tupRg2 (h : tM Z (mTupRg [a, b]) st H Q) : tTupRg (tRg2 (tM Z a) (tM Z b)) st H Q := tM.imp (args2 (tupRgM h)) fun x H1 hx => tM.imp hx fun y H2 hx => by
  obtain ⟨io, ds, h1, u, v, R1, r1, e, ok, p1⟩ := hx
  obtain ⟨rfl, rfl⟩ := rgArg2 r1 e
  exact ⟨u, v, rfl, rfl, ok, fun q hq => newTup R1 (rg_rel u v) p1 hq⟩
end
end
end PyI
-- PyL
/-! PyL: the mirror's targets, comprehensions, statements; their readings -/
namespace PyI
noncomputable section
open PySem PySem.Spec PyProof.Rows L2

/-! ### targets -/
abbrev MG := D → DS → DH → Option (DS × DH)
abbrev MGs := List D → DS → DH → Option (DS × DH)
/-- what the targets leave of the slots: all that stands at none of vs (vs = none: no word of it) -/
def Kept : Option (List Nat) → L2.St → L2.St → Prop
  | none, _, _ => True
  | some vs, st, st' => wipe st' vs = wipe st vs
theorem Kept.refl : ∀ {o : Option (List Nat)} {st : L2.St}, Kept o st st
  | none, _ => trivial
  | some _, _ => rfl
theorem Kept.trans : ∀ {o : Option (List Nat)} {a b c : L2.St}, Kept o a b → Kept o b c → Kept o a c
  | none, _, _, _, _, _ => trivial
  | some _, _, _, _, h1, h2 => Eq.trans h2 h1
def PostG (Z : Zx) (o : Option (List Nat)) (io : List Addr) (st : L2.St) (H : Hp) (r : Option (DS × DH)) (Q : L2.St → Hp → Prop) : Prop := match r with
  | some (s', h') => ∀ st' H' jo, Step Z.K io H jo H' → R Z.K jo h' H' → EnvR Z.K jo H' st' s' → Kept o st st' → Q st' H'
  | none => False
def tMG (Z : Zx) (o : Option (List Nat)) (m : MG) : TG := fun v st H Q => ∃ io s h d, R Z.K io h H ∧ EnvR Z.K io H st s ∧ DRel Z.K io H v d ∧ PostG Z o io st H (m d s h) Q
def tMGs (Z : Zx) (o : Option (List Nat)) (m : MGs) : TGs := fun vs st H Q => ∃ io s h ds, R Z.K io h H ∧ EnvR Z.K io H st s ∧ DRels Z.K io H vs ds ∧ PostG Z o io st H (m ds s h) Q
theorem wipe_comm (st : L2.St) (i : Nat) : ∀ vs : List Nat, (wipe st vs).set i none = wipe (st.set i none) vs
  | [] => rfl
  | v :: vs => by
    show ((wipe st vs).set v none).set i none = (wipe (st.set i none) vs).set v none
    rw [← wipe_comm st i vs]
    by_cases e : i = v
    · subst e; rfl
    · rw [List.set_comm _ _ (Ne.symm e)]
theorem wipe_at (st : L2.St) (x : Option V) : ∀ {vs : List Nat} {i : Nat}, i ∈ vs → wipe (st.set i x) vs = wipe st vs
  | v :: vs, i, h => by
    show (wipe (st.set i x) vs).set v none = (wipe st vs).set v none
    by_cases e : i = v
    · subst e
      rw [wipe_comm, wipe_comm, List.set_set]
    · rw [wipe_at st x ((List.mem_cons.mp h).resolve_left e)]
theorem wipe_wipe (st : L2.St) : ∀ vs ws : List Nat, (∀ v ∈ vs, v ∈ ws) → wipe (wipe st vs) ws = wipe st ws
  | [], _, _ => rfl
  | v :: vs, ws, h => by
    show wipe ((wipe st vs).set v none) ws = wipe st ws
    rw [wipe_at _ none (h v List.mem_cons_self), wipe_wipe st vs ws fun u hu => h u (List.mem_cons_of_mem _ hu)]
def keptI : Option (List Nat) → Nat → Bool
  | none, _ => true
  | some vs, i => vs.contains i
theorem Kept.set {o : Option (List Nat)} {i : Nat} {st : L2.St} (h : keptI o i = true) (x : Option V) : Kept o st (st.set i x) := by
  cases o with
  | none => trivial
  | some vs => exact wipe_at st x (by simpa [keptI] using h)
def gNo : MG := fun _ _ _ => none
def gNm (i : Nat) : MG := fun d s h => some (s.set i (some d), h)
def gsM : List MG → MGs
  | [] => fun ds s h => match ds with
    | [] => some (s, h)
    | _ => none
  | m :: r => fun ds s h => match ds with
    | d :: ds => (m d s h).bind fun q => gsM r ds q.1 q.2
    | [] => none
def gTp (l : List MG) : MG := fun d s h => match d with
  | .tup ds => if ds.length = l.length then gsM l ds s h else none
  | _ => none
def setIx (h : DH) (o i v : D) : Option DH := match o, i with
  | .ref n, .int k => match h[n]? with
    | some (.lst xs) => (ixN xs.length k).map fun j => h.set n (.lst (xs.set j v))
    | _ => none
  | _, _ => none
def okOf {α : Type} : Res α → Option (α × DH)
  | .ok a h => some (a, h)
  | _ => none
def gSubM (a b : ME) : MG := fun v s h => (okOf (a s h)).bind fun p => (okOf (b s p.2)).bind fun q => (setIx q.2 p.1 q.1 v).map fun h3 => (s, h3)

section
variable {Z : Zx} {o : Option (List Nat)} {st st1 : L2.St} {H H' : Hp} {io jo : List Addr} {Q : L2.St → Hp → Prop}
theorem PostG.at {r : Option (DS × DH)} (t : Step Z.K io H jo H') (k : Kept o st st1) (p : PostG Z o io st H r Q) : PostG Z o jo st1 H' r Q := by
  cases r with
  | none => exact p
  | some q => exact fun st' H2 ko u r1 r2 k2 => p st' H2 ko (t.trans u) r1 r2 (k.trans k2)
theorem PostG.here {s : DS} {h : DH} (p : PostG Z o io st H (some (s, h)) Q) (r : R Z.K io h H) (e : EnvR Z.K io H st1 s) (k : Kept o st st1) : Q st1 H := p st1 H io Step.refl r e k
theorem s_gNm {v : V} {i : Nat} (hk : keptI o i = true) (h : tMG Z o (gNm i) v st H Q) : gName i v st H Q := by
  obtain ⟨io, s, h0, d, hR, hE, hd, p⟩ := h
  exact p.here hR (hE.set hd i) (Kept.set hk _)
theorem s_gsNil {vs : List V} (h : tMGs Z o (gsM []) vs st H Q) : gNil vs st H Q := by
  obtain ⟨io, s, h0, ds, hR, hE, hd, p⟩ := h
  cases hd with
  | nil => exact ⟨rfl, p.here hR hE Kept.refl⟩
  | cons a t => exact p.elim
theorem s_gsCons {m : MG} {r : List MG} {vs : List V} (h : tMGs Z o (gsM (m :: r)) vs st H Q) : gCons (tMG Z o m) (tMGs Z o (gsM r)) vs st H Q := by
  obtain ⟨io, s, h0, ds, hR, hE, hd, p⟩ := h
  cases hd with
  | nil => exact p.elim
  | cons a t =>
    rename_i v vs d ds
    refine ⟨v, vs, rfl, io, s, h0, d, hR, hE, a, ?_⟩
    dsimp only [gsM] at p
    cases e : m d s h0 with
    | none => rw [e] at p; exact p.elim
    | some q =>
      rw [e] at p
      exact fun st' H' jo u r1 e1 k1 => ⟨jo, q.1, q.2, ds, r1, e1, t.mono u, PostG.at u k1 p⟩
theorem s_gTp {l : List MG} {v : V} {n : Nat} (hn : l.length = n) (h : tMG Z o (gTp l) v st H Q) : gTup Z.K n (tMGs Z o (gsM l)) v st H Q := by
  obtain ⟨io, s, h0, d, hR, hE, hd, p⟩ := h
  cases d with
  | tup ds =>
    obtain ⟨a, xs, rfl, hs, rx⟩ := hd.tupInv
    dsimp only [gTp] at p
    split at p
    · rename_i e
      exact ⟨a, xs, rfl, hs, by rw [rx.length, e, hn], io, s, h0, ds, hR, hE, rx, p⟩
    · exact p.elim
  | _ => exact p.elim
theorem setIx_ok {o i v : V} {o1 i1 v1 : D} {h h' : DH} {Q : Hp → Prop} (hR : R Z.K io h H) (ro : DRel Z.K io H o o1) (ri : DRel Z.K io H i i1) (rv : DRel Z.K io H v v1) (e : setIx h o1 i1 v1 = some h')
    (q : ∀ H', Step Z.K io H io H' → R Z.K io h' H' → Q H') : rSetL o i v H Q := by
  unfold setIx at e
  split at e
  · rename_i n k
    split at e
    · rename_i xs e1
      obtain ⟨j, ej, rfl⟩ := map_inv e
      obtain ⟨a, ys, rfl, ei, hy, ry⟩ := hR.isLst ro e1
      cases ri
      have st' : Step Z.K io H io (upd H a (.lst (ys.set j v))) := Step.write (List.mem_of_getElem? ei) (.inl ⟨_, hy⟩)
      refine ⟨a, ys, k, j, rfl, rfl, hy, by rw [ry.length]; exact ej, q _ st' (hR.write ei fun s2 => ⟨_, upd_same, (DRels.set rv j ry).mono s2⟩)⟩
    · cases e
  · cases e
theorem okOf_inv {α : Type} {r : Res α} {p : α × DH} (e : okOf r = some p) : r = .ok p.1 p.2 := by
  cases r with
  | ok a h => cases e; rfl
  | exc x h => cases e
  | no => cases e
theorem s_gSub {a b : ME} {v : V} (h : tMG Z o (gSubM a b) v st H Q) : gSub (tM Z a) (tM Z b) rSetL v st H Q := by
  obtain ⟨io, s, h0, d, hR, hE, hd, p⟩ := h
  dsimp only [gSubM] at p
  cases e1 : okOf (a s h0) with
  | none => rw [e1] at p; exact p.elim
  | some p1 =>
    rw [e1] at p
    dsimp only [Option.bind_some] at p
    cases e2 : okOf (b s p1.2) with
    | none => rw [e2] at p; exact p.elim
    | some p2 =>
      rw [e2] at p
      dsimp only [Option.bind_some] at p
      cases e3 : setIx p2.2 p1.1 p2.1 d with
      | none => rw [e3] at p; exact p.elim
      | some h3 =>
        rw [e3] at p
        refine ⟨io, s, h0, hR, hE, ?_⟩
        rw [okOf_inv e1]
        intro x H1 io1 t1 R1 r1
        refine ⟨io1, s, p1.2, R1, hE.mono t1, ?_⟩
        rw [okOf_inv e2]
        intro y H2 io2 t2 R2 r2
        exact setIx_ok R2 (r1.mono t2) r2 ((hd.mono t1).mono t2) e3 fun H3 t3 R3 => p st H3 io2 ((t1.trans t2).trans t3) R3 (((hE.mono t1).mono t2).mono t3) Kept.refl
end

/-! ### statements -/
def mSeq (a b : MS) : MS := fun s h => match a s h with
  | .nx s1 h1 => b s1 h1
  | r => r
def mNext : MS := fun s h => .nx s h
def mStNo : MS := fun _ _ => .no
def mBlock : List MS → MS
  | [] => mNext
  | a :: r => mSeq a (mBlock r)
def mAsg (a : ME) (g : MG) : MS := fun s h => bindS (a s h) s fun d h1 => match g d s h1 with
  | some (s2, h2) => .nx s2 h2
  | none => .no
def mDrop (a : ME) : MS := fun s h => bindS (a s h) s fun _ h1 => .nx s h1
def mRet (a : ME) : MS := fun s h => bindS (a s h) s fun d h1 => .rt d h1
def mRetN : MS := fun s h => .rt .non h
def mBrk : MS := fun s h => .bk s h
def mCnt : MS := fun s h => .ct s h
def mIfS (t : MT) (a b : MS) : MS := fun s h => bindS (t s h) s fun k h1 => if k then a s h1 else b s h1
def mAug (i : Nat) (f : D → D → DH → Res D) (a : ME) : MS := fun s h => match s[i]? with
  | some (some x) => bindS (a s h) s fun y h1 => bindS (f x y h1) s fun z h2 => .nx (s.set i (some z)) h2
  | _ => .no
def forGo (src : IS) (g : MG) (b : MS) : Nat → Nat → DS → DH → SR
  | 0, _, _, _ => .no
  | m + 1, i, s, h => match itemAt src i h with
    | none => .no
    | some none => .nx s h
    | some (some d) => match g d s h with
      | none => .no
      | some (s1, h1) => match b s1 h1 with
        | .nx s2 h2 => forGo src g b m (i + 1) s2 h2
        | .ct s2 h2 => forGo src g b m (i + 1) s2 h2
        | .bk s2 h2 => .nx s2 h2
        | r => r
theorem fuelEx : ∃ n : Nat, n = 1000000 := ⟨_, rfl⟩
/-- a number that no check unfolds -/
def fuel : Nat := fuelEx.choose
theorem fuel_eq : fuel = 1000000 := fuelEx.choose_spec
def mFor (src : MI) (g : MG) (b : MS) : MS := fun s h => bindS (src s h) s fun it h1 => forGo it g b fuel 0 s h1
def whGo (t : MT) (b : MS) : Nat → DS → DH → SR
  | 0, _, _ => .no
  | m + 1, s, h => bindS (t s h) s fun k h1 => if k then (match b s h1 with
      | .nx s2 h2 => whGo t b m s2 h2
      | .ct s2 h2 => whGo t b m s2 h2
      | .bk s2 h2 => .nx s2 h2
      | r => r) else .nx s h1
def mWhile (t : MT) (b : MS) : MS := fun s h => whGo t b fuel s h

section
variable {Z : Zx} {st : L2.St} {H H' : Hp} {io jo : List Addr} {E : Ends} {a : ME} {s : DS} {h : DH}
theorem PostS.imp {r : SR} {E' : Ends} (p : PostS Z io H r E) (h1 : ∀ st H, E.nx st H → E'.nx st H) (h2 : ∀ v H, E.rt v H → E'.rt v H) (h3 : ∀ st H, E.bk st H → E'.bk st H) (h4 : ∀ st H, E.ct st H → E'.ct st H) : PostS Z io H r E' := by
  cases r with
  | nx s h' => exact fun st H' jo u r1 r2 => h1 _ _ (p st H' jo u r1 r2)
  | bk s h' => exact fun st H' jo u r1 r2 => h3 _ _ (p st H' jo u r1 r2)
  | ct s h' => exact fun st H' jo u r1 r2 => h4 _ _ (p st H' jo u r1 r2)
  | rt d h' => exact fun v H' jo u r1 r2 => h2 _ _ (p v H' jo u r1 r2)
  | ex x s h' => exact p
  | no => exact p
theorem PostS.hereN (p : PostS Z io H (.nx s h) E) (r : R Z.K io h H) (e : EnvR Z.K io H st s) : E.nx st H := p st H io Step.refl r e
theorem s_next (h : tMS Z mNext E st H) : tNext E st H := by
  obtain ⟨io, s, h0, hR, hE, p⟩ := h
  exact p.hereN hR hE
theorem s_brk (h : tMS Z mBrk E st H) : tBreak E st H := by
  obtain ⟨io, s, h0, hR, hE, p⟩ := h
  exact p st H io Step.refl hR hE
theorem s_cnt (h : tMS Z mCnt E st H) : tCont E st H := by
  obtain ⟨io, s, h0, hR, hE, p⟩ := h
  exact p st H io Step.refl hR hE
theorem s_seq {x y : MS} (h : tMS Z (mSeq x y) E st H) : tSeq (tMS Z x) (tMS Z y) E st H := by
  obtain ⟨io, s, h0, hR, hE, p⟩ := h
  refine ⟨io, s, h0, hR, hE, ?_⟩
  dsimp only [mSeq] at p
  cases e : x s h0 with
  | nx s1 h1 =>
    rw [e] at p
    exact fun st' H' jo u r1 r2 => ⟨jo, s1, h1, r1, r2, PostS.at u p⟩
  | bk s1 h1 => rw [e] at p; exact p
  | ct s1 h1 => rw [e] at p; exact p
  | rt s1 h1 => rw [e] at p; exact p
  | ex x s1 h1 => rw [e] at p; exact p
  | no => rw [e] at p; exact p
theorem s_asg {g : MG} (h : tMS Z (mAsg a g) E st H) : tAsg (tM Z a) (tMG Z none g) E st H := by
  obtain ⟨io, s, h0, hR, hE, p⟩ := h
  refine ⟨io, s, h0, hR, hE, (PostS.bind (rel1 := DRel Z.K) p hE).imp fun x H1 hx => ?_⟩
  obtain ⟨io1, h1, d1, t1, R1, r1, p1⟩ := hx
  refine ⟨io1, s, h1, d1, R1, hE.mono t1, r1, ?_⟩
  cases e : g d1 s h1 with
  | none => rw [e] at p1; exact p1.elim
  | some q =>
    rw [e] at p1
    exact fun st' H' jo u r1 e1 _ => p1 st' H' jo u r1 e1
theorem s_drop (h : tMS Z (mDrop a) E st H) : tDrop (tM Z a) E st H := by
  obtain ⟨io, s, h0, hR, hE, p⟩ := h
  refine ⟨io, s, h0, hR, hE, (PostS.bind (rel1 := DRel Z.K) p hE).imp fun x H1 hx => ?_⟩
  obtain ⟨io1, h1, d1, t1, R1, r1, p1⟩ := hx
  exact p1.hereN R1 (hE.mono t1)
theorem s_ret (h : tMS Z (mRet a) E st H) : tRet (tM Z a) E st H := by
  obtain ⟨io, s, h0, hR, hE, p⟩ := h
  refine ⟨io, s, h0, hR, hE, (PostS.bind (rel1 := DRel Z.K) p hE).imp fun x H1 hx => ?_⟩
  obtain ⟨io1, h1, d1, t1, R1, r1, p1⟩ := hx
  exact p1 x H1 io1 Step.refl R1 r1
theorem s_retN (h : tMS Z mRetN E st H) : tRetN E st H := by
  obtain ⟨io, s, h0, hR, hE, p⟩ := h
  exact p .non H io Step.refl hR .non
theorem s_ifS {t : MT} {x y : MS} (h : tMS Z (mIfS t x y) E st H) : tIfS (tMT Z t) (tMS Z x) (tMS Z y) E st H := by
  obtain ⟨io, s, h0, hR, hE, p⟩ := h
  refine ⟨io, s, h0, hR, hE, (PostS.bind (rel1 := fun _ _ (b c : Bool) => b = c) p hE).imp fun k H1 hx => ?_⟩
  obtain ⟨io1, h1, d1, t1, R1, r1, p1⟩ := hx
  subst r1
  cases k with
  | true => rw [if_pos rfl]; exact ⟨io1, s, h1, R1, hE.mono t1, p1⟩
  | false => rw [if_neg Bool.false_ne_true]; exact ⟨io1, s, h1, R1, hE.mono t1, p1⟩
theorem s_aug {i : Nat} {r : R2} {f : D → D → DH → Res D} (hs : OpS Z r f) (h : tMS Z (mAug i f a) E st H) : tAug i (tM Z a) r E st H := by
  obtain ⟨io, s, h0, hR, hE, p⟩ := h
  dsimp only [mAug] at p
  split at p
  · rename_i x e
    obtain ⟨v, e1, rx⟩ := hE.get i x e
    refine ⟨v, e1, io, s, h0, hR, hE, (PostS.bind (rel1 := DRel Z.K) p hE).imp fun y H1 hy => ?_⟩
    obtain ⟨io1, h1, d1, t1, R1, r1, p1⟩ := hy
    refine hs io1 h1 H1 st v y x d1 _ R1 (rx.mono t1) r1 ((PostS.bind (rel1 := DRel Z.K) p1 (hE.mono t1)).imp fun z H2 hz => ?_)
    obtain ⟨io2, h2, d2, t2, R2, r2, p2⟩ := hz
    exact p2.hereN R2 (((hE.mono t1).mono t2).set r2 i)
  · exact p.elim
/-- what a body's ends are in a loop -/
theorem loopEnds {r : SR} {N : L2.St → Hp → Prop} {c : DS → DH → SR} (p : PostS Z io H (match r with
        | .nx s2 h2 => c s2 h2
        | .ct s2 h2 => c s2 h2
        | .bk s2 h2 => .nx s2 h2
        | r => r) E) (hN : ∀ st H' jo s2 h2, Step Z.K io H jo H' → R Z.K jo h2 H' → EnvR Z.K jo H' st s2 → PostS Z jo H' (c s2 h2) E → N st H') : PostS Z io H r { E with nx := N, ct := N, bk := E.nx } := by
  cases r with
  | nx s2 h2 => exact fun st' H' jo u r1 r2 => hN st' H' jo s2 h2 u r1 r2 (PostS.at u p)
  | ct s2 h2 => exact fun st' H' jo u r1 r2 => hN st' H' jo s2 h2 u r1 r2 (PostS.at u p)
  | bk s2 h2 => exact p
  | rt d h2 => exact p
  | ex x s2 h2 => exact p
  | no => exact p
theorem s_for {src : MI} {g : MG} {b : MS} (h : tMS Z (mFor src g b) E st H) : tFor (tMI Z src) (tMG Z none g) (tMS Z b) E st H := by
  obtain ⟨io, s, h0, hR, hE, p⟩ := h
  refine ⟨io, s, h0, hR, hE, (PostS.bind (rel1 := ItR Z.K) p hE).imp fun J H1 hx => ?_⟩
  obtain ⟨io1, h1, it, t1, R1, r1, p1⟩ := hx
  refine ⟨fun i m st H => ∃ jo s h, ItR Z.K jo H J it ∧ R Z.K jo h H ∧ EnvR Z.K jo H st s ∧ PostS Z jo H (forGo it g b m i s h) E, ⟨fuel, io1, s, h1, r1, R1, hE.mono t1, p1⟩, ?_⟩
  rintro i m st3 H3 ⟨jo, s3, h3, rI, rR, rE, p3⟩
  cases m with
  | zero => exact p3.elim
  | succ m =>
    dsimp only [forGo] at p3
    cases e : itemAt it i h3 with
    | none => rw [e] at p3; exact p3.elim
    | some o =>
      rw [e] at p3
      have q := rI jo h3 H3 Step.refl rR i o e
      cases o with
      | none => exact .inl ⟨q, p3.hereN rR rE⟩
      | some d =>
        obtain ⟨go, yld⟩ := q
        refine .inr ⟨go, fun st' H' => ∃ jo s h, ItR Z.K jo H' J it ∧ R Z.K jo h H' ∧ EnvR Z.K jo H' st' s ∧ PostS Z jo H' (forGo it g b m (i + 1) s h) E, fun st' H' w => ⟨m, Nat.lt_succ_self _, w⟩, fun x H' y => ?_⟩
        obtain ⟨t4, R4, r4⟩ := yld x H' y
        refine ⟨jo, s3, h3, d, R4, rE.mono t4, r4, ?_⟩
        dsimp only at p3
        cases eg : g d s3 h3 with
        | none => rw [eg] at p3; exact p3.elim
        | some q =>
          rw [eg] at p3
          intro st5 H5 jo5 t5 R5 E5 _
          refine ⟨jo5, q.1, q.2, R5, E5, ?_⟩
          exact loopEnds (PostS.at (t4.trans t5) p3) fun st6 H6 jo6 s6 h6 t6 R6 E6 p6 => ⟨jo6, s6, h6, ((rI.mono t4).mono t5).mono t6, R6, E6, p6⟩
theorem s_while {t : MT} {b : MS} (h : tMS Z (mWhile t b) E st H) : tWhile (tMT Z t) (tMS Z b) E st H := by
  obtain ⟨io, s, h0, hR, hE, p⟩ := h
  refine ⟨fun m st H => ∃ jo s h, R Z.K jo h H ∧ EnvR Z.K jo H st s ∧ PostS Z jo H (whGo t b m s h) E, ⟨fuel, io, s, h0, hR, hE, p⟩, ?_⟩
  rintro m st3 H3 ⟨jo, s3, h3, rR, rE, p3⟩
  cases m with
  | zero => exact p3.elim
  | succ m =>
    dsimp only [whGo] at p3
    refine ⟨jo, s3, h3, rR, rE, (PostS.bind (rel1 := fun _ _ (b c : Bool) => b = c) p3 rE).imp fun k H4 hk => ?_⟩
    obtain ⟨io4, h4, k', t4, R4, r4, p4⟩ := hk
    subst r4
    cases k with
    | true =>
      rw [if_pos rfl] at p4 ⊢
      refine ⟨fun st' H' => ∃ jo s h, R Z.K jo h H' ∧ EnvR Z.K jo H' st' s ∧ PostS Z jo H' (whGo t b m s h) E, fun st' H' w => ⟨m, Nat.lt_succ_self _, w⟩, io4, s3, h4, R4, rE.mono t4, ?_⟩
      exact loopEnds p4 fun st6 H6 jo6 s6 h6 t6 R6 E6 p6 => ⟨jo6, s6, h6, R6, E6, p6⟩
    | false =>
      rw [if_neg Bool.false_ne_true] at p4 ⊢
      exact p4.hereN R4 (rE.mono t4)
end
end
end PyI
-- PyM
/-! PyM: list comprehensions of the mirror -/
namespace PyI
noncomputable section
open PySem PySem.Spec PyProof.Rows L2

/-- what a reading of data leans on -/
structure Wk (K : PySem.W.Frag) (io : List Addr) (H : Hp) (jo : List Addr) (H' : Hp) : Prop where
  pre : ∀ (n : Nat) (a : Addr), io[n]? = some a → jo[n]? = some a
  tup : ∀ a xs, SqT K H a xs → SqT K H' a xs
  scr : ∀ a xs, SqF K H a xs → SqF K H' a xs
  rng : ∀ a lo hi, H a = some (.rng lo hi) → H' a = some (.rng lo hi)
section
variable {K : PySem.W.Frag} {io jo : List Addr} {H H' : Hp} {st : L2.St} {s : DS} {p : Addr} {o : HO}
theorem Step.wk (t : Step K io H jo H') : Wk K io H jo H' := ⟨t.pre, t.tup, t.scr, t.rng⟩
mutual
theorem DRel.wk (t : Wk K io H jo H') : ∀ {v : V} {d : D}, DRel K io H v d → DRel K jo H' v d
  | _, _, .non => .non
  | _, _, .bl b => .bl b
  | _, _, .int i => .int i
  | _, _, .str x => .str x
  | _, _, .ty n => .ty n
  | _, _, .tup h r => .tup (t.tup _ _ h) (DRels.wk t r)
  | _, _, .scr h => .scr (t.scr _ _ h)
  | _, _, .rng h => .rng (t.rng _ _ _ h)
  | _, _, .ref h => .ref (t.pre _ _ h)
theorem DRels.wk (t : Wk K io H jo H') : ∀ {vs : List V} {ds : List D}, DRels K io H vs ds → DRels K jo H' vs ds
  | _, _, .nil => .nil
  | _, _, .cons h r => .cons (DRel.wk t h) (DRels.wk t r)
end
theorem pairedWk (t : Wk K io H jo H') : ∀ {ks : List (Key × V)} {kvs : List (D × D)},
    Paired (fun (p : Key × V) (q : D × D) => DKey p.1 q.1 ∧ DRel K io H p.2 q.2) ks kvs → Paired (fun (p : Key × V) (q : D × D) => DKey p.1 q.1 ∧ DRel K jo H' p.2 q.2) ks kvs
  | _, _, .nil => .nil
  | _, _, .cons r u => .cons ⟨r.1, r.2.wk t⟩ (pairedWk t u)
theorem ORel.wk {a : Addr} {x : O} (t : Wk K io H jo H') (e : H' a = H a) (r : ORel K io H a x) : ORel K jo H' a x := by
  cases x with
  | lst ds => obtain ⟨xs, q, u⟩ := r; exact ⟨xs, e.trans q, u.wk t⟩
  | dic kvs => obtain ⟨ks, q, u⟩ := r; exact ⟨ks, e.trans q, pairedWk t u⟩
theorem EnvR.wk (t : Wk K io H jo H') (e : EnvR K io H st s) : EnvR K jo H' st s := ⟨e.len, fun i d h => by
  obtain ⟨v, h1, h2⟩ := e.get i d h
  exact ⟨v, h1, h2.wk t⟩⟩
/-- a list of nobody's is written -/
theorem Wk.own {xs : List V} (h : H p = some (.lst xs)) : Wk K io H io (upd H p o) where
  pre := fun _ _ e => e
  tup := fun a ys q => by
    have ne : ∀ u, H a = some u → (∀ zs, u ≠ .lst zs) → a ≠ p := fun u e n z => by
      subst z
      rw [h] at e
      exact n _ (Option.some.inj e).symm
    rcases q with (q | ⟨u, q⟩) | q
    · exact .inl (.inl (by rw [upd_ne (ne _ q fun _ z => nomatch z)]; exact q))
    · exact .inl (.inr ⟨u, by rw [upd_ne (ne _ q fun _ z => nomatch z)]; exact q⟩)
    · exact .inr q
  scr := fun a ys q => by
    rcases q with ⟨u, q⟩ | q
    · refine .inl ⟨u, ?_⟩
      rw [upd_ne]
      · exact q
      · intro z
        subst z
        rw [h] at q
        cases q
    · exact .inr q
  rng := fun a lo hi q => by
    rw [upd_ne]
    · exact q
    · intro z
      subst z
      rw [h] at q
      cases q
theorem R.own {h : DH} {xs : List V} (r : R K io h H) (e : H p = some (.lst xs)) (n : p ∉ io) : R K io h (upd H p o) := ⟨r.len, r.inj, fun i x ex => by
  obtain ⟨b, e2, q⟩ := r.obj i x ex
  refine ⟨b, e2, q.wk (Wk.own e) (upd_ne fun z => ?_)⟩
  subst z
  exact n (List.mem_of_getElem? e2)⟩
/-- .. seen from a place where it was not yet -/
theorem Step.own {xs : List V} (t : Step K io H jo H') (hn : H p = none) (e : H' p = some (.lst xs)) : Step K io H jo (upd H' p o) where
  pre := t.pre
  tup := fun a ys q => (Wk.own (K := K) (io := jo) e).tup a ys (t.tup a ys q)
  scr := fun a ys q => (Wk.own (K := K) (io := jo) e).scr a ys (t.scr a ys q)
  rng := fun a lo hi q => (Wk.own (K := K) (io := jo) e).rng a lo hi (t.rng a lo hi q)
  oth := fun a u q n => by
    rw [upd_ne]
    · exact t.oth a u q n
    · intro z
      subst z
      rw [hn] at q
      cases q
  new := t.new
/-- .. and comes to the mirror -/
theorem Wk.more : Wk K io H (io ++ [p]) H := ⟨fun n a e => by rw [List.getElem?_append_left (List.getElem?_eq_some_iff.mp e).1]; exact e, fun _ _ q => q, fun _ _ q => q, fun _ _ _ q => q⟩
theorem R.adopt {h : DH} {xs : List V} {ds : List D} (r : R K io h H) (e : H p = some (.lst xs)) (n : p ∉ io) (rx : DRels K io H xs ds) : R K (io ++ [p]) (h ++ [.lst ds]) H where
  len := by rw [List.length_append, List.length_append, r.len]; rfl
  inj := by
    rw [List.nodup_append]
    refine ⟨r.inj, by simp, fun a ha b hb => ?_⟩
    rw [List.mem_singleton] at hb
    subst hb
    intro z
    subst z
    exact n ha
  obj := fun i x ex => by
    by_cases hi : i < h.length
    · rw [List.getElem?_append_left hi] at ex
      obtain ⟨b, e2, q⟩ := r.obj i x ex
      exact ⟨b, by rw [List.getElem?_append_left (by rw [r.len]; exact hi)]; exact e2, q.wk Wk.more rfl⟩
    · rw [List.getElem?_append_right (Nat.le_of_not_lt hi)] at ex
      have hz : i - h.length = 0 := by
        have := (List.getElem?_eq_some_iff.mp ex).1
        simp at this
        omega
      rw [hz] at ex
      simp at ex
      subst ex
      refine ⟨p, ?_, xs, e, rx.wk Wk.more⟩
      have : i = io.length := by rw [r.len]; omega
      subst this
      simp
theorem Step.adopt (t : Step K io H jo H') (hn : H p = none) : Step K io H (jo ++ [p]) H' where
  pre := fun n a e => (Wk.more (K := K) (H := H')).pre n a (t.pre n a e)
  tup := t.tup
  scr := t.scr
  rng := t.rng
  oth := t.oth
  new := fun a m => by
    rcases List.mem_append.mp m with q | q
    · exact t.new a q
    · rw [List.mem_singleton] at q; subst q; exact .inr hn
end

def wipeD (s : DS) : List Nat → DS
  | [] => s
  | v :: vs => (wipeD s vs).set v none
theorem EnvR.wipe {K : PySem.W.Frag} {io : List Addr} {H : Hp} {st : L2.St} {s : DS} (e : EnvR K io H st s) : ∀ vs : List Nat, EnvR K io H (L2.wipe st vs) (wipeD s vs)
  | [] => e
  | v :: vs => (EnvR.wipe e vs).unset v
def tYesM : MT := fun _ h => .ok true h
def lcGo (src : IS) (g : MG) (t : MT) (e : ME) (s0 : DS) : Nat → Nat → List D → DH → Res (List D)
  | 0, _, _, _ => .no
  | m + 1, i, acc, h => match itemAt src i h with
    | none => .no
    | some none => .ok acc h
    | some (some d) => match g d s0 h with
      | none => .no
      | some (s1, h1) => match t s1 h1 with
        | .ok true h2 => match e s1 h2 with
          | .ok y h3 => if acc.length < 16777216 then lcGo src g t e s0 m (i + 1) (acc ++ [y]) h3 else .no
          | _ => .no
        | .ok false h2 => lcGo src g t e s0 m (i + 1) acc h2
        | _ => .no
def mLc (src : MI) (g : MG) (t : MT) (e : ME) (vs : List Nat) : ME := fun s h => (src s h).bind fun it h1 => (lcGo it g t e (wipeD s vs) fuel 0 [] h1).bind fun xs h2 => .ok (.ref h2.length) (h2 ++ [.lst xs])
def Zx.quiet (Z : Zx) : Zx := { Z with W := fun _ _ _ _ => False }
theorem s_lc {Z : Zx} {st : L2.St} {H : Hp} {Q : VK} {src : MI} {g : MG} {t : MT} {e : ME} {vs : List Nat} (h : tM Z (mLc src g t e vs) st H Q) :
    tLc (tMI Z src) (tMG Z.quiet (some vs) g) (tMT Z.quiet t) (tM Z.quiet e) vs st H Q := by
  have hz := sizeLine_eq
  obtain ⟨io, s, h0, hR, hE, p⟩ := h
  refine ⟨io, s, h0, hR, hE, (PostR.bind (rel1 := ItR Z.K) p).imp fun J H1 hx => ?_⟩
  obtain ⟨io1, h1, it, t1, R1, r1, p1⟩ := hx
  intro L hL
  have E1 : EnvR Z.K io1 H1 (wipe st vs) (wipeD s vs) := (hE.mono t1).wipe vs
  refine ⟨fun i m H3 => ∃ jo h acc xs, Step Z.K io1 H1 jo H3 ∧ R Z.K jo h H3 ∧ EnvR Z.K jo H3 (wipe st vs) (wipeD s vs) ∧ L ∉ jo ∧ H3 L = some (.lst xs) ∧ DRels Z.K jo H3 xs acc ∧
      PostR Z io1 H1 st (DRel Z.K) ((lcGo it g t e (wipeD s vs) m i acc h).bind fun xs h2 => .ok (.ref h2.length) (h2 ++ [.lst xs])) Q,
    ⟨fuel, io1, h1, [], [], Step.put hL, R1.put hL, E1.mono (Step.put hL), R1.fresh hL, upd_same, .nil, p1⟩, ?_⟩
  rintro i m H3 ⟨jo, h3, acc, xs, t3, R3, E3, nL, eL, rx, p3⟩
  cases m with
  | zero => exact p3.elim
  | succ m =>
    dsimp only [lcGo] at p3
    cases ei : itemAt it i h3 with
    | none => rw [ei] at p3; exact p3.elim
    | some o =>
      rw [ei] at p3
      have q := r1 jo h3 H3 t3 R3 i o ei
      cases o with
      | none =>
        refine .inl ⟨q, p3 (.ref L) H3 (jo ++ [L]) (t3.adopt hL) (R3.adopt eL nL rx) (.ref ?_)⟩
        rw [← R3.len]
        simp
      | some d =>
        obtain ⟨go, yld⟩ := q
        refine .inr ⟨go, fun H' => ∃ jo h acc xs, Step Z.K io1 H1 jo H' ∧ R Z.K jo h H' ∧ EnvR Z.K jo H' (wipe st vs) (wipeD s vs) ∧ L ∉ jo ∧ H' L = some (.lst xs) ∧ DRels Z.K jo H' xs acc ∧
          PostR Z io1 H1 st (DRel Z.K) ((lcGo it g t e (wipeD s vs) m (i + 1) acc h).bind fun xs h2 => .ok (.ref h2.length) (h2 ++ [.lst xs])) Q, fun H' w => ⟨m, Nat.lt_succ_self _, w⟩, fun x H' y => ?_⟩
        obtain ⟨t4, R4, r4⟩ := yld x H' y
        refine ⟨jo, wipeD s vs, h3, d, R4, E3.mono t4, r4, ?_⟩
        dsimp only at p3
        cases eg : g d (wipeD s vs) h3 with
        | none => rw [eg] at p3; exact p3.elim
        | some q =>
          rw [eg] at p3
          intro st5 H5 jo5 t5 R5 E5 k5
          refine ⟨by rw [show wipe st5 vs = wipe (wipe st vs) vs from k5, wipe_wipe st vs vs fun _ z => z], jo5, q.1, q.2, R5, E5, ?_⟩
          dsimp only at p3
          have T5 := t4.trans t5
          have keepL : ∀ {ko : List Addr} {H6 : Hp}, Step Z.K jo H3 ko H6 → L ∉ ko ∧ H6 L = some (.lst xs) := by
            intro ko H6 u
            refine ⟨fun z => ?_, u.oth L _ eL nL⟩
            rcases u.new L z with q | q
            · exact nL q
            · rw [eL] at q; cases q
          cases et : t q.1 q.2 with
          | no => rw [et] at p3; exact p3.elim
          | exc _ _ => rw [et] at p3; exact p3.elim
          | ok b h6 =>
            rw [et] at p3
            intro b' H6 jo6 t6 R6 rb
            subst rb
            have T6 := T5.trans t6
            obtain ⟨n6, e6⟩ := keepL T6
            cases b' with
            | false =>
              rw [if_neg Bool.false_ne_true]
              exact ⟨jo6, h6, acc, xs, t3.trans T6, R6, E3.mono T6, n6, e6, rx.mono T6, p3⟩
            | true =>
              rw [if_pos rfl]
              dsimp only at p3
              refine ⟨jo6, q.1, h6, R6, E5.mono t6, ?_⟩
              cases ee : e q.1 h6 with
              | no => rw [ee] at p3; exact p3.elim
              | exc _ _ => rw [ee] at p3; exact p3.elim
              | ok y h7 =>
                rw [ee] at p3
                intro y' H7 jo7 t7 R7 ry
                have T7 := T6.trans t7
                obtain ⟨n7, e7⟩ := keepL T7
                dsimp only at p3
                split at p3
                · rename_i hl
                  refine ⟨xs, e7, by rw [rx.length]; omega, jo7, h7, acc ++ [y], xs ++ [y'], (t3.trans T7).own hL e7, R7.own e7 n7, (E3.mono T7).wk (Wk.own e7), n7, upd_same, ((rx.mono T7).wk (Wk.own e7)).append (.cons (ry.wk (Wk.own e7)) .nil), p3⟩
                · exact p3.elim
end
end PyI
-- PyN
/-! PyN: defs and calls, where it is known that nothing is being shown (guards = []) -/
namespace PyI
open PySem PySem.Spec PyProof.Rows L2

/-! ### binding -/
def pickL {α : Type} : List Nat → List α → Option (List α)
  | [], _ => some []
  | j :: r, xs => xs[j]?.bind fun x => (pickL r xs).map fun ys => x :: ys
def BindK (K : PySem.W.Frag) (fd : FuncData) (ps : List Str) (n : Nat) (ks : List Str) (pm : List Nat) : Prop :=
  ∀ (s : Shared) (us ws : List Value), K.In s.heap → us.length = n → ws.length = ks.length → ∃ ys, pickL pm (us ++ ws) = some ys ∧ ys.length = ps.length ∧ BindsTo s fd ⟨us, ks.zip ws⟩ (ps.zip ys)
theorem pick_vals : ∀ {pm : List Nat} {vs : List V} {us : List Value} {xs : List V} {ys : List Value}, Vals vs us → pickL pm vs = some xs → pickL pm us = some ys → Vals xs ys
  | [], _, _, _, _, _, e1, e2 => by cases e1; cases e2; exact .nil
  | j :: r, vs, us, xs, ys, h, e1, e2 => by
    obtain ⟨x, a1, e1⟩ := bind_inv e1
    obtain ⟨xs, b1, rfl⟩ := map_inv e1
    obtain ⟨y, a2, e2⟩ := bind_inv e2
    obtain ⟨ys, b2, rfl⟩ := map_inv e2
    obtain ⟨u, h1, h2⟩ := h.get a1
    rw [a2] at h1; cases h1
    exact .cons h2 (pick_vals h b1 b2)
theorem pick_rel {K : PySem.W.Frag} {io : List Addr} {H : Hp} : ∀ {pm : List Nat} {vs : List V} {ds : List D} {es : List D}, DRels K io H vs ds → pickL pm ds = some es → ∃ xs, pickL pm vs = some xs ∧ DRels K io H xs es
  | [], _, _, _, _, e => by cases e; exact ⟨[], rfl, .nil⟩
  | j :: r, vs, ds, es, h, e => by
    obtain ⟨d, a, e⟩ := bind_inv e
    obtain ⟨es, b, rfl⟩ := map_inv e
    obtain ⟨v, h1, h2⟩ := h.get a
    obtain ⟨xs, h3, h4⟩ := pick_rel h b
    refine ⟨v :: xs, ?_, .cons h2 h4⟩
    show (vs[j]?.bind fun x => (pickL r vs).map fun ys => x :: ys) = _
    rw [h1, h3]
    rfl

/-! ### the promise of a def -/
structure FnG (P : Program) (w : World) (K : PySem.W.Frag) (mg : Str → Option Value) (base : Heap) (X : CXT) (k : Nat) (f : Addr) (fd : FuncData) (ps : List Str) (sp : Sp) : Prop where
  len : ∀ vs H Q E, sp vs H Q E → vs.length = ps.length
  go : ∀ (A : Around) (outer : List Env) (s : Shared) (H : Hp) (args : Args) (us : List Value) (vs : List V) (Q : VK) (E : XK), A.guards = some [] → Room k A → Env0 P w K mg base A outer s H → BindsTo s fd args (ps.zip us) → Vals vs us → sp vs H Q E →
    codeAny (model P w) A (.call (.ref f) args) (CR X outer P w H s Q E) s
theorem FnG.more {P : Program} {w : World} {K : PySem.W.Frag} {mg : Str → Option Value} {base : Heap} {X : CXT} {j k : Nat} {f : Addr} {fd : FuncData} {ps : List Str} {sp : Sp} (F : FnG P w K mg base X j f fd ps sp) (h : j ≤ k) : FnG P w K mg base X k f fd ps sp :=
  ⟨F.len, fun A outer s H args us vs Q E hg hr => F.go A outer s H args us vs Q E hg (hr.mono h)⟩
theorem guards_deeper {A : Around} {env : Env} (h : A.guards = some []) : (A.deeper env).guards = some [] := h

/-- a body keeps the promise -/
theorem fnG_of {P : Program} {w : World} {K : PySem.W.Frag} {mg : Str → Option Value} {base : Heap} {k : Nat} {x : Str} {st : Stmt} {f : Addr} {fd : FuncData} {N ps : List Str} {sp : Sp} (F : Fun K x x st f fd) (S : FnScope N ps (defScope st))
    (len : ∀ vs H Q E, sp vs H Q E → vs.length = ps.length)
    (body : ∀ (cdv : Value) (A : Around) (outer : List Env) (s : Shared) (H : Hp) (vs : List V) (Q : VK) (E : XK), A.guards = some [] → Room k (A.deeper (envOfC x (defScope st) s.heap.objs.size f cdv)) → sp vs H Q E →
      ∃ t, PSs (cxOf (L2.CX P w) P w K mg base N x (defScope st) f cdv A outer s H E) (defBody st) t ∧ t { nx := fun _ H' => Q .non H', rt := Q } (start N vs) H) :
    FnG P w K mg base (L2.CX P w) (k + 1) f fd ps sp := by
  obtain ⟨oc, od, kV, doc, pm, an, cdv, ct, osl, rfl, look, code⟩ := F.ex
  refine ⟨len, fun A outer s H args us vs Q E guards room e0 binds vals asked => ?_⟩
  have inHeap : K.In s.heap := e0.mod.kin.keeps fun b o z => (e0.bs b o z).1
  have noLimit : s.heap.NoLimit := e0.mod.nolimit.keeps fun b o z => (e0.bs b o z).1
  refine codeAny_call_function room.depth (inHeap _ _ look) rfl S.co S.gen rfl (PySem.W.codeRec_of inHeap code) (binds _ _ _ _ ?_)
  refine wpAny_newFunctionEnv_cells S.kind (fun y hy => ?_) fun env he s1 x1 => ?_
  · rcases S.par y.1 (List.of_mem_zip (show (y.1, y.2) ∈ ps.zip us from hy)).1 with q | q
    · exact .inl q
    · exact .inr ⟨q, PySem.W.cellsFrom_some _ _ _ (.inl q)⟩
  · subst he
    obtain ⟨t, ht, hq⟩ := body cdv A outer s H vs Q E guards (room.deeper _) asked
    refine ⟨noLimit.keeps x1.toInCall.keep, codeAny_func (wpAny_mono (ht.run [] s1 (start N vs) H _ (inv_start S room.hd e0 (len _ _ _ _ asked) vals x1) hq) (fun fl s' hs => ?_) fun _ _ z => z)⟩
    cases fl with
    | ret u => exact let ⟨v, st', H', J, rv, q⟩ := hs; ⟨v, H', J.os, J.bare, J.base, J.hok, rv, q⟩
    | next => exact let ⟨st', H', J, q⟩ := hs; ⟨.non, H', J.os, J.bare, J.base, J.hok, rfl, q⟩
    | brk => exact let ⟨_, _, _, q⟩ := hs; q.elim
    | cont => exact let ⟨_, _, _, q⟩ := hs; q.elim

/-! ### calls -/
section
variable {X : Cx} {k : Nat} {f : Addr} {fd : FuncData} {ps ks : List Str} {sp : Sp} {E : L2.St → XK} {x : Str} {pm : List Nat}
theorem goG {G : CXT} {pins : List (Addr × Obj)} {st : L2.St} {H : Hp} {s : Shared} {Q : VK} {us ws : List Value} {vs zs xs : List V} {n : Nat} (F : FnG X.prog X.w X.K X.mg X.base G k f fd ps sp) (hg : X.A.guards = some []) (hr : Room k X.A)
    (hb : BindK X.K fd ps n ks pm) (hx : PassesAt G X st (E st)) (I : Inv X pins st H s) (r : Vals vs us) (rz : Vals zs ws) (l1 : us.length = n) (l2 : ws.length = ks.length) (e : pickL pm (vs ++ zs) = some xs) (h : sp xs H Q (E st)) :
    wpAny (model X.prog X.w) X.A (call (.ref f) us (ks.zip ws)) (EP X pins st Q) X.xe s := by
  obtain ⟨ys, e2, l3, b⟩ := hb s us ws I.kIn l1 l2
  refine wpAny_call (codeAny_mono (F.go X.A X.stack s H ⟨us, ks.zip ws⟩ ys xs Q (E st) hg hr I.env0 b (pick_vals (r.append rz) e e2) h) fun res s' hq => ?_)
  cases res with
  | error u => exact hx pins H s u s' I hq
  | ok fl =>
    cases fl with
    | ret u => exact I.after hq
    | _ => exact False.elim hq
def kwNames : List Keyword → Option (List Str)
  | [] => some []
  | ⟨some n, _, _⟩ :: r => (kwNames r).map fun l => n :: l
  | ⟨none, _, _⟩ :: _ => none
theorem kwTrees : ∀ {kws : List Keyword} {ks : List Str} {pos : Pos} {env : Env}, kwNames kws = some ks →
    (backToKw pos (keywordEach kws env)).all (·.1.isSome) = true ∧ (backToKw pos (keywordEach kws env)).any (·.1.isNone) = false ∧ (backToKw pos (keywordEach kws env)).filterMap (·.1) = ks
  | [], _, _, _, e => by cases e; exact ⟨rfl, rfl, rfl⟩
  | ⟨some n, v, p⟩ :: r, ks, pos, env, e => by
    obtain ⟨l, e1, rfl⟩ := map_inv e
    obtain ⟨h1, h2, h3⟩ := kwTrees (pos := pos) (env := env) e1
    unfold backToKw at h1 h2 h3 ⊢
    refine ⟨?_, ?_, ?_⟩
    · show (true && List.all _ _) = true
      rw [h1]
      rfl
    · show (false || List.any _ _) = false
      rw [h2]
      rfl
    · show n :: List.filterMap _ _ = n :: l
      rw [h3]
  | ⟨none, v, p⟩ :: r, ks, pos, env, e => by cases e
def tCallG (sp : Sp) (pm : List Nat) (n m : Nat) (E : L2.St → XK) (t tk : TA) : TE := fun st H Q => t st H fun vs H1 => tk st H1 fun zs H2 => vs.length = n ∧ zs.length = m ∧ ∃ xs, pickL pm (vs ++ zs) = some xs ∧ sp xs H2 Q (E st)
theorem pe_callG {G : CXT} {es : List Expr} {kws : List Keyword} {p pos : Pos} {t tk : TA} (F : FnG X.prog X.w X.K X.mg X.base G k f fd ps sp) (hgd : X.A.guards = some []) (hr : Room k X.A) (hg : Gl X x) (hm : X.mg x = some (.ref f)) (hk : PySem.W.keepIn X.K (.ref f) = true)
    (hb : BindK X.K fd ps es.length ks pm) (hx : ∀ st, PassesAt G X st (E st)) (ha : PA X es t) (ha0 : es = [] → ∀ st H (QA : List V → Hp → Prop), t st H QA → QA [] H) (hkw : PK X kws tk) (hs : noStars es = true) (hks : kwNames kws = some ks) (hdb : (x == ("__debug__" : Str)) = false) :
    PE X (.Call (.Name x p) es kws pos) (tCallG sp pm es.length ks.length E t tk) := by
  refine ⟨fun pins s st H Q I h => wpAny_Call_Name_kw (ld_glob I hg hm ?_ hdb)⟩
  obtain ⟨n1, n2⟩ := noStars_trees (env := X.env) (pos := pos) hs
  obtain ⟨k1, k2, k3⟩ := kwTrees (pos := pos) (env := X.env) hks
  have fin : ∀ {us ws : List Value} {s2 : Shared} {vs zs : List V} {H2 : Hp}, Vals vs us → Vals zs ws → Inv X pins st H2 s2 → (vs.length = es.length ∧ zs.length = ks.length ∧ ∃ xs, pickL pm (vs ++ zs) = some xs ∧ sp xs H2 Q (E st)) →
      wpAny (model X.prog X.w) X.A (call (.ref f) us (ks.zip ws)) (EP X pins st Q) X.xe s2 := by
    intro us ws s2 vs zs H2 r rz I2 q
    obtain ⟨l1, l2, xs, e, q⟩ := q
    exact goG F hgd hr hb (hx st) I2 r rz (by rw [← r.length]; exact l1) (by rw [← rz.length]; exact l2) e q
  have kwz : ∀ {us : List Value} {s1 : Shared} {vs : List V} {H1 : Hp}, Vals vs us → Inv X pins st H1 s1 → (tk st H1 fun zs H2 => vs.length = es.length ∧ zs.length = ks.length ∧ ∃ xs, pickL pm (vs ++ zs) = some xs ∧ sp xs H2 Q (E st)) →
      wpAny (model X.prog X.w) X.A (evalAll ((backToKw pos (keywordEach kws X.env)).map (·.2))) (fun ws s2 => X.K.In s2.heap ∧ wpAny (model X.prog X.w) X.A (call (.ref f) us (((backToKw pos (keywordEach kws X.env)).filterMap (·.1)).zip ws)) (EP X pins st Q) X.xe s2) X.xe s1 := by
    intro us s1 vs H1 r I1 q
    refine thn (hkw.run pos pins s1 st H1 _ I1 q) fun ws s2 ⟨zs, H2, I2, rz, q2⟩ => ⟨I2.kIn, ?_⟩
    rw [k3]
    exact fin r rz I2 q2
  cases es with
  | nil => exact PySem.W.callWith_KW0 (h₀ := X.base) I.ok.mod.kin hk k1 (kwz (vs := []) .nil I (ha0 rfl st H _ h)) (by rw [k2]; rfl)
  | cons e es =>
    have h0 : isStar e = false := by
      unfold noStars at hs
      rw [List.all_cons, Bool.and_eq_true] at hs
      simpa using hs.1
    exact PySem.W.callWith_KW (h₀ := X.base) I.ok.mod.kin hk k1 (thn (ha.run pos pins s st H _ I h) fun us s1 ⟨vs, H1, I1, r, q⟩ => kwz r I1 q) (by rw [n1, k2]; rfl) (starEach_cons h0)
end
end PyI
-- PyO
/-! PyO: the head of a law, for promises where nothing is being shown -/
namespace PyI
open PySem PySem.Spec PyProof.Rows L2

/-- the abstract heap at the law's call: the script alone, unless it is the module's own -/
def hp0 (own : Bool) (a : Addr) (o : Obj) (ns : List Int) : Hp := fun b => if b = a then (if own then none else some (.frz o (.lst (ns.map V.int)))) else none
section
variable {own : Bool} {a b : Addr} {o : Obj} {ns : List Int}
theorem hp0_ne (h : b ≠ a) : hp0 own a o ns b = none := if_neg h
theorem hp0_own : hp0 true a o ns b = none := by
  unfold hp0
  split <;> rfl
theorem hp0_at : hp0 false a o ns a = some (.frz o (.lst (ns.map V.int))) := if_pos rfl
theorem hp0_some {u : HO} (h : hp0 own a o ns b = some u) : b = a ∧ own = false ∧ u = .frz o (.lst (ns.map V.int)) := by
  by_cases e : b = a
  · subst e
    cases own with
    | true => rw [hp0_own] at h; cases h
    | false => rw [hp0_at] at h; cases h; exact ⟨rfl, rfl, rfl⟩
  · rw [hp0_ne e] at h; cases h
end
theorem law_G {P : Program} {w : World} {K : PySem.W.Frag} {mg mb : Str → Option Value} {k : Nat} {fa a : Addr} {fd : FuncData} {x : Str} {sp : Sp} {s : Shared} {vs : List Value} {ns : List Int}
    (kin : K.In s.heap) (glob : s.heap.Ns mainGlobals mg) (blt : s.heap.Ns builtinsNs mb) (bltIs : ∀ x : Str, x ≠ "__name__" → mb x = bootBuiltins x) (noLim : s.heap.NoLimit) (noGen : s.gens = #[])
    (script : s.heap.get? a = some { cls := .type "list", data := .seq vs.toArray }) (isInt : IntsAre vs ns) (small : ns.length ≤ sizeLine) (room : Room k callerA)
    (F : ∀ base : Heap, K.In base → base.Ns mainGlobals mg → FnG P w K mg base (L2.CX P w) k fa fd [x] sp) (bind : ∀ (s : Shared) (u : Value), BindsTo s fd ⟨[u], []⟩ [(x, u)])
    (asked : ∀ H : Hp, SqF K H a (ns.map V.int) → (∀ b, H b = none ∨ b = a) → sp [.ref a] H (fun v _ => v = .bl true) fun _ _ _ => False) :
    codeAny (model P w) callerA (.call (.ref fa) ⟨[.ref a], []⟩) (fun r s' => r = .ok (.ret (.bool true)) ∧ OldK s.heap s'.heap ∧ s'.os = s.os ∧ AllBare s'.gens) s := by
  have vals := vals_ints isInt
  have count := isInt.length
  obtain ⟨own, hown⟩ : ∃ own : Bool, own = (K.lookup a).isSome := ⟨_, rfl⟩
  obtain ⟨H, hH⟩ : ∃ H : Hp, H = hp0 own a { cls := .type "list", data := .seq vs.toArray } ns := ⟨_, rfl⟩
  have only : ∀ {b : Addr} {u : HO}, H b = some u → b = a ∧ own = false ∧ u = .frz { cls := .type "list", data := .seq vs.toArray } (.lst (ns.map V.int)) := fun {b u} e => by
    rw [hH] at e
    exact hp0_some e
  have untr : ∀ {b : Addr}, (∀ u, H b ≠ some u) → H b = none := fun {b} n => by
    cases e : H b with
    | none => rfl
    | some u => exact absurd e (n u)
  -- an object that is no list stands outside
  have free : ∀ {b : Addr} {o : Obj}, s.heap.get? b = some o → o ≠ { cls := .type "list", data := .seq vs.toArray } → H b = none := fun {b o} e n => untr fun u z => by
    obtain ⟨rfl, _, _⟩ := only z
    rw [script] at e
    exact n (Option.some.inj e).symm
  have inB : ∀ {b : Addr} {o : Obj}, s.heap.get? b = some o → H b = none → (hidT s.heap H).get? b = some o := fun e n => hidT_get e n
  have nsB : ∀ {b : Addr} {m : Str → Option Value}, s.heap.Ns b m → (hidT s.heap H).Ns b m := fun {b m} ⟨o, es, ep, e, d, r⟩ => ⟨o, es, ep, inB e (free e fun z => by rw [z] at d; cases d), d, r⟩
  have kB : K.In (hidT s.heap H) := fun b o e => inB (kin b o e) (untr fun u z => by
    obtain ⟨rfl, f, _⟩ := only z
    rw [f, e] at hown
    cases hown)
  have listed : SqF K H a (ns.map V.int) := by
    cases ho : own with
    | false => exact .inl ⟨{ cls := .type "list", data := .seq vs.toArray }, by rw [hH, ho]; exact hp0_at⟩
    | true =>
      rw [ho] at hown
      obtain ⟨o, e⟩ := Option.isSome_iff_exists.mp hown.symm
      have e2 := kin a o e
      rw [script] at e2
      cases e2
      exact .inr ⟨_, vs.toArray, _, e, rfl, rfl, rfl, by rw [List.size_toArray, count]; exact small, by simpa using vals⟩
  have hok : HOk P w H s.heap := fun b u z => by
    obtain ⟨rfl, _, rfl⟩ := only z
    exact ⟨script, by rw [List.length_map]; exact small, vs, _, vals, script⟩
  have env : Env0 P w K mg (hidT s.heap H) callerA [] s H := ⟨rfl, ⟨kB, nsB glob, ⟨mb, nsB blt, bltIs⟩, let ⟨mc, h1, h2⟩ := noLim; ⟨mc, nsB h1, h2⟩⟩, fun b o e => of_hidT e, Nat.le_of_eq (hidT_size _ _), trivial,
    fun b z => absurd (show b ∈ ([] : List Addr) from z) (by simp), hok, .of_eq noGen⟩
  have run := (F _ kB (nsB glob)).go callerA [] s H ⟨[.ref a], []⟩ [.ref a] [.ref a] _ _ rfl room env (bind s (.ref a)) (.cons rfl .nil) (asked H listed fun b => by
    cases e : H b with
    | none => exact .inl rfl
    | some u => exact .inr (only e).1)
  refine codeAny_mono run fun r s' q => ?_
  cases r with
  | error e => exact let ⟨_, _, _, _, _, _, _, _, _, _, _, _, z⟩ := q; z.elim
  | ok fl =>
    cases fl with
    | ret u =>
      obtain ⟨v, H', os, bare, un, hok', rv, qv⟩ := q
      subst qv
      cases rv
      refine ⟨rfl, OldK.of_keep fun b o e => ?_, os, bare⟩
      cases z : H b with
      | none => exact un.keep b o e z (fun q => nomatch q) (by simp)
      | some u =>
        obtain ⟨_, _, rfl⟩ := only z
        obtain ⟨e1, _⟩ := hok b _ z
        obtain ⟨e2, _⟩ := hok' b _ (un.frzs b _ _ z)
        rw [e] at e1
        cases e1
        exact e2
    | _ => exact False.elim q
theorem walk_G {l : PySem.W.OpenLaw} {n k : Nat} {q : Program} {loose : List Str} {XP : (Str → Option Value) → Heap → Prop} {YP : World → Heap → Prop} {d : DefRec} {x : Str}
    (most : l.most = some n) (small : n ≤ sizeLine) (plain : d.params.defaults = []) (room : Room k callerA)
    (F : ∀ (w : World) (mg : Str → Option Value) (fa : Addr) (h : Heap), YP w h → h.Ns mainGlobals mg → mg d.name = some (.ref fa) →
      ∃ (K : PySem.W.Frag) (fd : FuncData) (sp : Sp), K.In h ∧ (∀ (s : Shared) (u : Value), BindsTo s fd ⟨[u], []⟩ [(x, u)]) ∧
        (∀ (H : Hp) (a : Addr) (ns : List Int), ns.length ≤ n → SqF K H a (ns.map V.int) → (∀ b, H b = none ∨ b = a) → sp [.ref a] H (fun v _ => v = .bl true) fun _ _ _ => False) ∧
        ∀ base : Heap, K.In base → base.Ns mainGlobals mg → FnG l.prog w K mg base (L2.CX l.prog w) k fa fd [x] sp) :
    PySem.W.WalkO q loose XP YP l.row.toRowW d [] (fun f vs => PySem.call f vs) := by
  refine Att.attach_call most plain fun w s₀ s₁ mg mb fa o pm cd doc a vs ns G Y _ _ _ hmg script isInt len gens => ?_
  obtain ⟨K, fd, sp, kin, bind, asked, go⟩ := F w mg fa _ Y G.T.g hmg
  exact law_G kin G.T.g G.T.b G.T.builtins G.T.nolimit gens script isInt (Nat.le_trans len small) room go bind fun H h1 h2 => asked H a ns len h1 h2
end PyI
-- PyP
/-! PyP: the mirror of an expression -/
namespace PyI
noncomputable section
open PySem PySem.Spec PyProof.Rows L2

inductive GV where
  | fn (i np : Nat) (sh : List (Nat × List Str × List Nat)) | con (d : D)
structure C where
  N : List Str
  sc : Scope
  G : List (Str × GV)
  B : List Str
  F : Nat → List D → DH → Res D
  cw : Str → Bool
def ixOf (x : Str) : List Str → Nat → Option Nat
  | [], _ => none
  | y :: r, i => if y = x then some i else ixOf x r (i + 1)
def visK : Option NameKind → Bool
  | some .local | some .cell | some .free => true
  | _ => false
def slotOf (c : C) (x : Str) : Option Nat := if visK (c.sc.names.lookup x) && !(x == ("__debug__" : Str)) && !(x == ("__classdict__" : Str)) then ixOf x c.N 0 else none
def isGl (c : C) (x : Str) : Bool := decide (c.sc.names.lookup x = some .globalImplicit) && !(x == ("__debug__" : Str))
def isBl (c : C) (x : Str) : Bool := isGl c x && c.B.contains x && !(x == ("__name__" : Str))
def tgOk (c : C) (x : Str) : Bool := match c.sc.names.lookup x with
  | some .local => true
  | some .cell => c.cw x
  | _ => false
structure EvR where
  e : ME
  t : MT
  i : Bool → MI
def iNo : MI := fun _ _ => .no
def vt (m : ME) : EvR := ⟨m, mTru m, fun _ => iPlain m⟩
def bt (m : ME) : EvR := ⟨m, mB m, fun _ => iNo⟩
def evNo : EvR := ⟨mNo, tNo, fun _ => iNo⟩
def litOf : Const → Option D
  | .none => some .non
  | .bool b => some (.bl b)
  | .int i => some (.int i)
  | .str x => some (.str x)
  | _ => none
def tyName (x : Str) : Option String := if x = "int" then some "int" else if x = "bool" then some "bool" else if x = "str" then some "str" else if x = "list" then some "list" else if x = "tuple" then some "tuple" else if x = "dict" then some "dict" else none
def evName (c : C) (x : Str) : EvR := match slotOf c x with
  | some i => vt (mVar i)
  | none => match c.G.lookup x with
    | some (.con d) => if isGl c x then vt (mLit d) else evNo
    | some _ => evNo
    | none => if isBl c x then (match tyName x with
      | some n => vt (mLit (.ty n))
      | none => evNo) else evNo
def evCmp (E : Expr → EvR) (a : Expr) (ops : List CmpOp) (bs : List Expr) : EvR := match ops, bs with
  | [op], [b] => if behindInMarks op b then evNo else bt (mBin (opC op) (E a).e (E b).e)
  | [op, op'], [b, d] => if lastMarks [op, op'] [b, d] then evNo else bt (mChain (opC op) (opC op') (E a).e (E b).e (E d).e)
  | _, _ => evNo
def findSh : List (Nat × List Str × List Nat) → Nat → List Str → Option (List Nat)
  | [], _, _ => none
  | (n, ks, pm) :: r, m, js => if n = m ∧ ks = js then some pm else findSh r m js
def mCallK (F : List D → DH → Res D) (np n m : Nat) (pm : List Nat) (l lk : List ME) : ME := fun s h => (mArgs l s h).bind fun xs h1 => (mArgs lk s h1).bind fun zs h2 => if xs.length = n ∧ zs.length = m then (match pickL pm (xs ++ zs) with
  | some ys => if ys.length = np then F ys h2 else .no
  | none => .no) else .no
def rgCall (c : C) : Expr → Option (List Expr)
  | .Call (.Name y _) as [] _ => if y = "range" ∧ isBl c y = true ∧ c.G.lookup y = none ∧ noStars as = true then some as else none
  | _ => none
def evBltE (c : C) (E : Expr → EvR) (x : Str) (args : List Expr) : ME :=
  if x = "list" then (match args with
    | [a] => match rgCall c a with
      | some [u] => mLstRg [(E u).e]
      | some [u, v] => mLstRg [(E u).e, (E v).e]
      | some _ => mNo
      | none => mBlt .list [(E a).e]
    | _ => mNo)
  else if x = "tuple" then (match args with
    | [a] => match rgCall c a with
      | some [u] => mTupRg [(E u).e]
      | some [u, v] => mTupRg [(E u).e, (E v).e]
      | some _ => mNo
      | none => mBlt .tuple [(E a).e]
    | _ => mNo)
  else match bltOf x, args with
    | some b, _ :: _ => mBlt b (args.map fun a => (E a).e)
    | _, _ => mNo
def evBltI (c : C) (E : Expr → EvR) (x : Str) (args : List Expr) (tup : Bool) : MI :=
  if x = "range" then (match args with
    | [a] => iRange rngOf1 [(E a).e]
    | [a, b] => iRange rngOf2 [(E a).e, (E b).e]
    | [a, b, d] => iRange rngOf3 [(E a).e, (E b).e, (E d).e]
    | _ => iNo)
  else if x = "enumerate" then (match args, tup with
    | [a], true => iEnumM (E a).e
    | _, _ => iNo)
  else if x = "zip" then (match args, tup with
    | [a, b], true => iZipM (E a).e (E b).e
    | _, _ => iNo)
  else if x = "reversed" then (match args with
    | [a] => match rgCall c a with
      | some [u] => iRevRg [(E u).e]
      | some [u, v] => iRevRg [(E u).e, (E v).e]
      | some _ => iNo
      | none => iRevM (E a).e
    | _ => iNo)
  else iPlain (evBltE c E x args)
def evCall (c : C) (E : Expr → EvR) (f : Expr) (args : List Expr) (kws : List Keyword) (p : Pos) : EvR :=
  if noStars args then (match f with
    | .Name x _ => match c.G.lookup x with
      | some (.fn i np sh) => if isGl c x then (match kwNames kws with
        | some ks => match findSh sh args.length ks with
          | some pm => vt (mCallK (c.F i) np args.length ks.length pm (args.map fun a => (E a).e) (kws.map fun k => (E k.value).e))
          | none => evNo
        | none => evNo) else evNo
      | some (.con _) => evNo
      | none => if isBl c x then (match kws with
        | [] => ⟨evBltE c E x args, mTru (evBltE c E x args), evBltI c E x args⟩
        | _ :: _ => evNo) else evNo
    | .Attribute o nm apos => match kws with
      | [] => if plainBase o && decide (args.length < 29) && (apos.endLine == p.line) then vt (mMeth nm (E o).e (args.map fun a => (E a).e)) else evNo
      | _ :: _ => evNo
    | _ => evNo) else evNo
def evPart (E : Expr → EvR) : Option Expr → MO
  | none => oNone
  | some e => mPart (E e).e
def isRevSl : Option Expr → Option Expr → Expr → Bool
  | none, none, .UnaryOp .USub (.Constant (.int 1) _ _) _ => true
  | _, _, _ => false
def evSub (E : Expr → EvR) (a sl : Expr) : EvR := match sl with
  | .Slice lo hi none _ => vt (mSl (E a).e (evPart E lo) (evPart E hi))
  | .Slice lo hi (some st) _ => if isRevSl lo hi st then vt (mRev (E a).e) else evNo
  | b => vt (mBin opI (E a).e (E b).e)
def isTup : Expr → Bool
  | .Tuple _ _ _ => true
  | _ => false
def isSliceE : Expr → Bool
  | .Slice _ _ _ _ => true
  | _ => false
def isSetE : Expr → Bool
  | .Set _ _ _ => true
  | _ => false
def ownOf (N : List Str) : List (Str × NameKind) → List (Str × Nat)
  | [] => []
  | (n, k) :: r => if k = .local ∨ k = .cell then (match ixOf n N 0 with
    | some i => (n, i) :: ownOf N r
    | none => ownOf N r) else ownOf N r
def C.blk (c : C) (scope : Scope) : C := { c with sc := relS scope c.sc, cw := fun x => scope.names.lookup x == some .cell }
def evTests (E : Expr → EvR) : List Expr → MT
  | [] => tYesM
  | [t] => (E t).t
  | _ => tNo
def mapO {α β : Type} (f : α → Option β) : List α → Option (List β)
  | [] => some []
  | a :: r => (f a).bind fun b => (mapO f r).map fun bs => b :: bs
/-- targets -/
def evG (E : Expr → EvR) (c : C) (o : Option (List Nat)) : Nat → Expr → Option MG
  | 0, _ => none
  | n + 1, e => match e with
    | .Name x _ => if tgOk c x then (ixOf x c.N 0).bind fun i => if keptI o i then some (gNm i) else none else none
    | .Tuple es _ _ => if noStars es then (mapO (evG E c o n) es).map gTp else none
    | .Subscript a b _ => if isSliceE b then none else some (gSubM (E a).e (E b).e)
    | _ => none
def evLc (E : Expr → EvR) (E' : Expr → EvR) (c : C) (elt : Expr) (gens : List Comprehension) (scope : Scope) : EvR := match gens with
  | [⟨tg, iter, ifs, a⟩] => if a = 0 ∧ isSetE iter = false ∧ blkC c.N c.sc scope (ownOf c.N scope.names) = true then
      (match evG E' (c.blk scope) (some ((ownOf c.N scope.names).map (·.2))) 9 tg with
      | some g => vt (mLc ((E iter).i (isTup tg)) g (evTests E' ifs) (E' elt).e ((ownOf c.N scope.names).map (·.2)))
      | none => evNo) else evNo
  | _ => evNo
def ev : Nat → C → Expr → EvR
  | 0, _, _ => evNo
  | n + 1, c, e => match e with
    | .Constant k _ _ => match litOf k with
      | some d => vt (mLit d)
      | none => evNo
    | .Name x _ => evName c x
    | .BinOp a op b _ => vt (mBin (opB op) (ev n c a).e (ev n c b).e)
    | .UnaryOp op a _ => match op with
      | .USub => vt (mNeg (ev n c a).e)
      | .Not => ⟨mNotE (ev n c a).e, mNotT (ev n c a).t, fun _ => iNo⟩
      | _ => evNo
    | .BoolOp op vs _ => match op with
      | .And => ⟨mAndE (vs.map fun v => (ev n c v).e), mAndT (vs.map fun v => (ev n c v).t), fun _ => iNo⟩
      | .Or => ⟨mOrE (vs.map fun v => (ev n c v).e), mOrT (vs.map fun v => (ev n c v).t), fun _ => iNo⟩
    | .IfExp t a b _ => ⟨mIf (ev n c t).t (ev n c a).e (ev n c b).e, tNo, fun _ => iPlain (mIf (ev n c t).t (ev n c a).e (ev n c b).e)⟩
    | .Compare a ops bs _ => evCmp (ev n c) a ops bs
    | .Call f args kws p => evCall c (ev n c) f args kws p
    | .Subscript a sl _ => evSub (ev n c) a sl
    | .List es _ => if noStars es then vt (mLst (es.map fun v => (ev n c v).e)) else evNo
    | .Tuple es _ _ => if noStars es then vt (mTup (es.map fun v => (ev n c v).e)) else evNo
    | .ListComp elt gens scope _ => evLc (ev n c) (ev n (c.blk scope)) c elt gens scope
    | _ => evNo

/-! ### what the context is to be -/
structure Good (X : Cx) (Z : Zx) (lv : Nat) (c : C) : Prop where
  K : Z.K = X.K
  N : X.N = c.N
  nd : c.N.Nodup
  sc : X.env.scope = c.sc
  kd : c.sc.kind = .function
  calm : X.calm = true
  gd : X.A.guards = some []
  room : Room lv X.A
  tk : Takes X Z.W
  cw : ∀ x, c.cw x = true → X.fn x = true
  blt : ∀ x, c.B.contains x = true → X.mg x = none
  con : ∀ x d, c.G.lookup x = some (.con d) → ∃ v u, X.mg x = some u ∧ RelV v u ∧ ∀ io H, DRel X.K io H v d
  fn : ∀ x i np sh, c.G.lookup x = some (.fn i np sh) → ∃ f fd ps, ps.length = np ∧ X.mg x = some (.ref f) ∧ PySem.W.keepIn X.K (.ref f) = true ∧ FnG X.prog X.w X.K X.mg X.base (L2.CX X.prog X.w) lv f fd ps (spM X.K Z.Cs np (c.F i)) ∧
    ∀ n ks pm, findSh sh n ks = some pm → BindK X.K fd ps n ks pm
section
variable {X : Cx} {Z : Zx} {lv : Nat} {c : C}
theorem Good.un (g : Good X Z lv c) : X.A.units + 66 < cLine := by
  have := g.room.un
  omega
theorem Good.blk (g : Good X Z lv c) {s : Shared} {H : Hp} {L : Addr} {cl : List (Str × Addr)} {fp : List Addr} {scope : Scope} (hk : scope.kind = .function) : Good (X.blk s H scope (compEnvC scope cl L X.env) fp) Z.quiet lv (c.blk scope) where
  K := g.K
  N := g.N
  nd := g.nd
  sc := by
    show relS scope X.env.scope = relS scope c.sc
    rw [g.sc]
  kd := hk
  calm := g.calm
  gd := g.gd
  room := g.room
  tk := takes0
  cw := fun x h => h
  blt := g.blt
  con := g.con
  fn := fun x i np sh h => g.fn x i np sh h
theorem ixOf_ok {x : Str} : ∀ {l : List Str} {k i : Nat}, ixOf x l k = some i → k ≤ i ∧ l[i - k]? = some x
  | y :: r, k, i, h => by
    unfold ixOf at h
    split at h
    · rename_i e
      cases h
      exact ⟨Nat.le_refl _, by simp [e]⟩
    · obtain ⟨h1, h2⟩ := ixOf_ok h
      refine ⟨by omega, ?_⟩
      have : i - k = (i - (k + 1)) + 1 := by omega
      rw [this]
      simpa using h2
theorem ixOf_get {x : Str} {l : List Str} {i : Nat} (h : ixOf x l 0 = some i) : l[i]? = some x := by
  have := (ixOf_ok h).2
  simpa using this
end
end
end PyI
-- PyQ
/-! PyQ: the mirror of an expression tells the truth -/
namespace PyI
open PySem PySem.Spec PyProof.Rows L2

theorem _root_.L2.PE.weak {X : Cx} {e : Expr} {t t' : TE} (h : PE X e t) (w : ∀ st H Q, t' st H Q → t st H Q) : PE X e t' := PyI.PE.weak h w
theorem _root_.L2.PT.weak {X : Cx} {e : Expr} {t t' : TT} (h : PT X e t) (w : ∀ st H Q, t' st H Q → t st H Q) : PT X e t' := PyI.PT.weak h w
theorem _root_.L2.PA.weak {X : Cx} {e : List Expr} {t t' : TA} (h : PA X e t) (w : ∀ st H Q, t' st H Q → t st H Q) : PA X e t' := PyI.PA.weak h w
theorem _root_.L2.PS.weak {X : Cx} {e : Stmt} {t t' : TS} (h : PS X e t) (w : ∀ E st H, t' E st H → t E st H) : PS X e t' := PyI.PS.weak h w
theorem _root_.L2.PSs.weak {X : Cx} {e : List Stmt} {t t' : TS} (h : PSs X e t) (w : ∀ E st H, t' E st H → t E st H) : PSs X e t' := PyI.PSs.weak h w
theorem _root_.L2.PI.weak {X : Cx} {tg e : Expr} {t t' : TI} (h : PI X tg e t) (w : ∀ st H Q, t' st H Q → t st H Q) : PI X tg e t' := ⟨fun pins s st H Q I q => h.run pins s st H Q I (w st H Q q)⟩
theorem _root_.L2.PG.weak {X : Cx} {tg : Expr} {t t' : TG} (h : PG X tg t) (w : ∀ v st H Q, t' v st H Q → t v st H Q) : PG X tg t' := ⟨fun pins s st H v u Q I r q => h.run pins s st H v u Q I r (w v st H Q q)⟩
theorem _root_.L2.PGs.weak {X : Cx} {tg : List Expr} {t t' : TGs} (h : PGs X tg t) (w : ∀ v st H Q, t' v st H Q → t v st H Q) : PGs X tg t' := ⟨fun pins s st H v u Q I r q => h.run pins s st H v u Q I r (w v st H Q q)⟩
theorem _root_.L2.PK.weak {X : Cx} {kws : List Keyword} {t t' : TA} (h : PK X kws t) (w : ∀ st H Q, t' st H Q → t st H Q) : PK X kws t' := ⟨fun pos pins s st H Q I q => h.run pos pins s st H Q I (w st H Q q)⟩
theorem _root_.L2.PTs.weak {X : Cx} {e : List Expr} {t t' : TT} (h : PTs X e t) (w : ∀ st H Q, t' st H Q → t st H Q) : PTs X e t' := ⟨fun pins s st H Q I q => h.run pins s st H Q I (w st H Q q)⟩
theorem _root_.L2.PW.weak {X : Cx} {e : Expr} {t t' : TT} (h : PW X e t) (w : ∀ st H Q, t' st H Q → t st H Q) : PW X e t' := ⟨fun wh pins s st H Q I q => h.run wh pins s st H Q I (w st H Q q)⟩
structure OkE (X : Cx) (Z : Zx) (r : EvR) (u : Expr) : Prop where
  e : PE X u (tM Z r.e)
  t : PT X u (tMT Z r.t)
  i : ∀ tg, PI X tg u (tMI Z (r.i (isTup tg)))
section
variable {X : Cx} {Z : Zx} {lv : Nat} {c : C} {e : Expr}
theorem noE {st : L2.St} {H : Hp} {Q : VK} (h : tM Z mNo st H Q) : False := let ⟨_, _, _, _, _, p⟩ := h; p
theorem noT {st : L2.St} {H : Hp} {Q : Bool → Hp → Prop} (h : tMT Z tNo st H Q) : False := let ⟨_, _, _, _, _, p⟩ := h; p
theorem noI {st : L2.St} {H : Hp} {Q : It → Hp → Prop} (h : tMI Z iNo st H Q) : False := let ⟨_, _, _, _, _, p⟩ := h; p
theorem pe_no : PE X e (tM Z mNo) := ⟨fun _ _ _ _ _ _ h => (noE h).elim⟩
theorem pt_no : PT X e (tMT Z tNo) := ⟨fun _ _ _ _ _ _ h => (noT h).elim⟩
theorem pi_no {tg : Expr} : PI X tg e (tMI Z iNo) := ⟨fun _ _ _ _ _ _ h => (noI h).elim⟩
theorem ok_no : OkE X Z evNo e := ⟨pe_no, pt_no, fun _ => pi_no⟩
def plainT : Expr → Bool
  | .UnaryOp .Not _ _ | .BoolOp _ _ _ | .IfExp _ _ _ _ | .Compare _ _ _ _ => false
  | _ => true
theorem plainT_ok {env : Env} (h : plainT e = true) : ∀ whole, isTrue e env whole = (do let v ← whole; standAt e.pos; holding [v] (truthy v)) := by
  cases e with
  | UnaryOp op a p => cases op <;> first | (intro _; rfl) | cases h
  | BoolOp => cases h
  | IfExp => cases h
  | Compare => cases h
  | _ => intro _; rfl
theorem ok_pt (hK : Z.K = X.K) {m : ME} (h : PE X e (tM Z m)) (he : plainT e = true) : PT X e (tMT Z (mTru m)) := by
  refine (pt_truth h (plainT_ok he)).weak fun st H Q q => ?_
  rw [← hK]
  exact s_mTru q
theorem ok_pi (hK : Z.K = X.K) {m : ME} (h : PE X e (tM Z m)) (tg : Expr) : PI X tg e (tMI Z (iPlain m)) := by
  refine (pi_any h).weak fun st H Q q => ?_
  rw [← hK]
  exact s_iPlain q
theorem ok_vt (hK : Z.K = X.K) {m : ME} (h : PE X e (tM Z m)) (he : plainT e = true) : OkE X Z (vt m) e := ⟨h, ok_pt hK h he, fun tg => ok_pi hK h tg⟩
theorem ok_lit (hK : Z.K = X.K) {d : D} {v : V} (h : PE X e (tC v)) (r : ∀ io H, DRel Z.K io H v d) (he : plainT e = true) : OkE X Z (vt (mLit d)) e :=
  ok_vt hK (h.weak fun st H Q q => s_lit q fun io => r io H) he
theorem visK_ok {sc : Scope} {x : Str} (h : visK (sc.names.lookup x) = true) : Vis sc x := by
  unfold visK at h
  split at h
  · rename_i e; exact .inl e
  · rename_i e; exact .inr (.inl e)
  · rename_i e; exact .inr (.inr e)
  · cases h
theorem Good.gl (g : Good X Z lv c) {x : Str} (h : isGl c x = true) : Gl X x ∧ (x == ("__debug__" : Str)) = false := by
  unfold isGl at h
  simp only [Bool.and_eq_true, decide_eq_true_eq, Bool.not_eq_true'] at h
  refine ⟨?_, h.2⟩
  show X.env.scope.names.lookup x = _
  rw [g.sc]
  exact h.1
theorem Good.bl (g : Good X Z lv c) {x : Str} (h : isBl c x = true) : Gl X x ∧ X.mg x = none ∧ (x == ("__debug__" : Str)) = false ∧ x ≠ "__name__" := by
  unfold isBl at h
  simp only [Bool.and_eq_true, Bool.not_eq_true'] at h
  obtain ⟨⟨h1, h2⟩, h3⟩ := h
  obtain ⟨a, b⟩ := g.gl h1
  exact ⟨a, g.blt x h2, b, by simpa using h3⟩
theorem iteInv {α : Type} {p : Prop} [Decidable p] {a d : α} {b : Option α} (h : (if p then some a else b) = some d) : (p ∧ a = d) ∨ b = some d := by
  by_cases hp : p
  · rw [if_pos hp] at h
    exact .inl ⟨hp, Option.some.inj h⟩
  · rw [if_neg hp] at h
    exact .inr h
theorem tyName_ok {x : Str} {n : String} (h : tyName x = some n) : bootBuiltins x = some (.type n) := by
  unfold tyName at h
  iterate 6
    rcases iteInv h with ⟨e, e2⟩ | h
    · subst e e2; rfl
  cases h
theorem ok_name (g : Good X Z lv c) {x : Str} {p : Pos} : OkE X Z (evName c x) (.Name x p) := by
  unfold evName
  split
  · rename_i i hs
    unfold slotOf at hs
    split at hs
    · rename_i hv
      simp only [Bool.and_eq_true, Bool.not_eq_true'] at hv
      refine ok_vt g.K ((pe_var (i := i) ?_ ?_ hv.1.2 hv.2).weak fun st H Q q => s_var q) rfl
      · rw [g.N]; exact ixOf_get hs
      · rw [g.sc]; exact visK_ok hv.1.1
    · cases hs
  · split
    · rename_i d hd
      split
      · rename_i hg
        obtain ⟨a, b⟩ := g.gl hg
        obtain ⟨v, u, h1, h2, h3⟩ := g.con _ _ hd
        exact ok_lit g.K (pe_glob a h1 h2 b) (fun io H => by rw [g.K]; exact h3 io H) rfl
      · exact ok_no
    · exact ok_no
    · split
      · rename_i hb
        obtain ⟨a, b, d, e⟩ := g.bl hb
        split
        · rename_i n hn
          exact ok_lit g.K (pe_bltn (v := .ty n) a b (tyName_ok hn) rfl e d) (fun _ _ => .ty n) rfl
        · exact ok_no
      · exact ok_no
theorem ok_args {E : Expr → EvR} : ∀ {es : List Expr}, noStars es = true → (∀ e ∈ es, OkE X Z (E e) e) → PA X es (tMA Z (mArgs (es.map fun a => (E a).e)))
  | [], _, _ => pa_nil.weak fun st H Q q => s_nil q
  | e :: es, hs, h => by
    have h0 : isStar e = false ∧ noStars es = true := by
      unfold noStars at hs ⊢
      rw [List.all_cons, Bool.and_eq_true] at hs
      exact ⟨by simpa using hs.1, hs.2⟩
    exact (pa_cons (h e List.mem_cons_self).e (ok_args h0.2 fun a ha => h a (List.mem_cons_of_mem _ ha)) (starEach_cons h0.1)).weak fun st H Q q => s_cons q
theorem ok_kws {E : Expr → EvR} : ∀ {kws : List Keyword}, (∀ k ∈ kws, OkE X Z (E k.value) k.value) → PK X kws (tMA Z (mArgs (kws.map fun k => (E k.value).e)))
  | [], _ => pk_nil.weak fun st H Q q => s_nil q
  | ⟨n, v, p⟩ :: r, h => (pk_cons (h _ List.mem_cons_self).e (ok_kws fun k hk => h k (List.mem_cons_of_mem _ hk))).weak fun st H Q q => s_cons q
theorem ok_and {E : Expr → EvR} {pos : Pos} : ∀ {vs : List Expr}, (∀ e ∈ vs, OkE X Z (E e) e) → PE X (.BoolOp .And vs pos) (tM Z (mAndE (vs.map fun v => (E v).e)))
  | [], _ => pe_no
  | [a], h => pe_one (h a (by simp)).e
  | a :: b :: r, h => (pe_and (h a (by simp)).e (ok_and (vs := b :: r) fun e he => h e (List.mem_cons_of_mem _ he))).weak fun st H Q q => s_andE q
theorem ok_or {E : Expr → EvR} {pos : Pos} : ∀ {vs : List Expr}, (∀ e ∈ vs, OkE X Z (E e) e) → PE X (.BoolOp .Or vs pos) (tM Z (mOrE (vs.map fun v => (E v).e)))
  | [], _ => pe_no
  | [a], h => pe_one (h a (by simp)).e
  | a :: b :: r, h => (pe_or (h a (by simp)).e (ok_or (vs := b :: r) fun e he => h e (List.mem_cons_of_mem _ he))).weak fun st H Q q => s_orE q
theorem ok_andT {E : Expr → EvR} {pos : Pos} : ∀ {vs : List Expr}, (∀ e ∈ vs, OkE X Z (E e) e) → PW X (.BoolOp .And vs pos) (tMT Z (mAndT (vs.map fun v => (E v).t)))
  | [], _ => ⟨fun _ _ _ _ _ _ _ h => (noT h).elim⟩
  | [a], h => pw_and1 (h a (by simp)).t
  | a :: b :: r, h => (pw_and (h a (by simp)).t (ok_andT (vs := b :: r) fun e he => h e (List.mem_cons_of_mem _ he))).weak fun st H Q q => s_andT q
theorem ok_orT {E : Expr → EvR} {pos : Pos} : ∀ {vs : List Expr}, (∀ e ∈ vs, OkE X Z (E e) e) → PW X (.BoolOp .Or vs pos) (tMT Z (mOrT (vs.map fun v => (E v).t)))
  | [], _ => ⟨fun _ _ _ _ _ _ _ h => (noT h).elim⟩
  | [a], h => pw_or1 (h a (by simp)).t
  | a :: b :: r, h => (pw_or (h a (by simp)).t (ok_orT (vs := b :: r) fun e he => h e (List.mem_cons_of_mem _ he))).weak fun st H Q q => s_orT q
theorem ok_cmp (g : Good X Z lv c) {E : Expr → EvR} (hE : ∀ e, OkE X Z (E e) e) {a : Expr} {ops : List CmpOp} {bs : List Expr} {p : Pos} : OkE X Z (evCmp E a ops bs) (.Compare a ops bs p) := by
  have hu : X.A.units + 65 < cLine := by have := g.un; omega
  unfold evCmp
  split
  · rename_i op b
    split
    · exact ok_no
    · rename_i hb
      have hb : behindInMarks op b = false := by simpa using hb
      obtain ⟨r, h1, h2⟩ := opC_ok X Z g.K hu op
      exact ⟨(pe_cmpR h1 (hE a).e (hE b).e hb).weak fun st H Q q => s_bin h2 q, (pt_cmpR h1 (hE a).e (hE b).e hb).weak fun st H Q q => s_bin h2 (s_mB q), fun _ => pi_no⟩
  · rename_i op op' b d
    split
    · exact ok_no
    · rename_i hb
      have hb : lastMarks [op, op'] [b, d] = false := by simpa using hb
      obtain ⟨r, h1, h2⟩ := opC_ok X Z g.K hu op
      obtain ⟨r', h1', h2'⟩ := opC_ok X Z g.K hu op'
      exact ⟨(pe_chain h1 h1' (hE a).e (hE b).e (hE d).e hb).weak fun st H Q q => s_chain h2 h2' q, (pt_chain h1 h1' (hE a).e (hE b).e (hE d).e hb).weak fun st H Q q => s_chain h2 h2' (s_mB q), fun _ => pi_no⟩
  · exact ok_no
theorem s_callG {F : List D → DH → Res D} {np n m : Nat} {pm : List Nat} {l lk : List ME} {st : L2.St} {H : Hp} {Q : VK} (h : tM Z (mCallK F np n m pm l lk) st H Q) :
    tCallG (spM Z.K Z.Cs np F) pm n m (WE Z.W) (tMA Z (mArgs l)) (tMA Z (mArgs lk)) st H Q := by
  obtain ⟨io, s, h0, hR, hE, p⟩ := h
  refine ⟨io, s, h0, hR, hE, (PostR.bind (rel1 := DRels Z.K) p).imp fun xs H1 hx => ?_⟩
  obtain ⟨io1, h1, d1, t1, R1, r1, p1⟩ := hx
  refine ⟨io1, s, h1, R1, hE.mono t1, (PostR.bind (rel1 := DRels Z.K) p1).imp fun zs H2 hz => ?_⟩
  obtain ⟨io2, h2, d2, t2, R2, r2, p2⟩ := hz
  split at p2
  · rename_i hl
    split at p2
    · rename_i ys e
      split at p2
      · rename_i hn
        obtain ⟨vs, e1, rv⟩ := pick_rel ((r1.mono t2).append r2) e
        refine ⟨by rw [r1.length]; exact hl.1, by rw [r2.length]; exact hl.2, vs, e1, io2, ys, h2, R2, rv, by rw [rv.length]; exact hn, ?_⟩
        cases q : F ys h2 with
        | ok d h3 => rw [q] at p2; exact p2
        | exc x h3 => rw [q] at p2; exact p2
        | no => rw [q] at p2; exact p2
      · exact p2.elim
    · exact p2.elim
  · exact p2.elim
theorem boot_of {x : Str} {b : Blt} (h : bltOf x = some b) : bootBuiltins x = some (bltV b) := by
  unfold bltOf at h
  iterate 15
    rcases iteInv h with ⟨e, e2⟩ | h
    · subst e e2; rfl
  cases h
theorem pe_blt (g : Good X Z lv c) {E : Expr → EvR} (hE : ∀ e, OkE X Z (E e) e) {x : Str} {b : Blt} {a : Expr} {r : List Expr} {p pos : Pos} (hb : isBl c x = true) (hx : bltOf x = some b) (hs : noStars (a :: r) = true) :
    PE X (.Call (.Name x p) (a :: r) [] pos) (tM Z (mBlt b ((a :: r).map fun u => (E u).e))) := by
  obtain ⟨h1, h2, h3, h4⟩ := g.bl hb
  obtain ⟨R, c1, c2⟩ := bltF_ok X Z g.K g.calm g.gd g.un b
  have h0 : isStar a = false := by
    unfold noStars at hs
    rw [List.all_cons, Bool.and_eq_true] at hs
    simpa using hs.1
  have hr : noStars r = true := by
    unfold noStars at hs ⊢
    rw [List.all_cons, Bool.and_eq_true] at hs
    exact hs.2
  have ha := ok_args (X := X) (Z := Z) (E := E) hs fun e _ => hE e
  have hv := boot_of hx
  have nt := (noStars_trees (env := X.env) (pos := pos) hr).1
  refine PE.weak (t := tCB R (tMA Z (mArgs ((a :: r).map fun u => (E u).e)))) ?_ fun st H Q q => s_blt c2 q
  cases b <;> first
    | exact pe_callB c1 h1 h2 hv ha h4 h3 (starEach_cons h0) nt
    | exact pe_callTy c1 h1 h2 hv ha h4 h3 (starEach_cons h0) nt
end
end PyI
-- PyR
/-! PyR: .. calls, subscripts, comprehensions, targets; the whole -/
namespace PyI
open PySem PySem.Spec PyProof.Rows L2
section
variable {X : Cx} {Z : Zx} {lv : Nat} {c : C} {e : Expr} {E : Expr → EvR}
theorem noStars_cons {a : Expr} {r : List Expr} (hs : noStars (a :: r) = true) : isStar a = false ∧ noStars r = true := by
  unfold noStars at hs ⊢
  rw [List.all_cons, Bool.and_eq_true] at hs
  exact ⟨by simpa using hs.1, hs.2⟩
theorem rgCall_ok {a : Expr} {l : List Expr} (h : rgCall c a = some l) : ∃ y p q, a = .Call (.Name y p) l [] q ∧ y = "range" ∧ isBl c y = true ∧ noStars l = true := by
  unfold rgCall at h
  split at h
  · rename_i y p as q
    split at h
    · rename_i hh
      cases h
      exact ⟨y, p, q, rfl, hh.1, hh.2.1, hh.2.2.2⟩
    · cases h
  · cases h
theorem prg1 (g : Good X Z lv c) (hE : ∀ e, OkE X Z (E e) e) {a u : Expr} (h : rgCall c a = some [u]) : PRg X a (tRg1 (tM Z (E u).e)) := by
  obtain ⟨y, p, q, rfl, rfl, hb, hs⟩ := rgCall_ok h
  obtain ⟨h1, h2, h3, h4⟩ := g.bl hb
  exact prg_1 h1 h2 (hE u).e (starEach_cons (noStars_cons hs).1)
theorem prg2 (g : Good X Z lv c) (hE : ∀ e, OkE X Z (E e) e) {a u v : Expr} (h : rgCall c a = some [u, v]) : PRg X a (tRg2 (tM Z (E u).e) (tM Z (E v).e)) := by
  obtain ⟨y, p, q, rfl, rfl, hb, hs⟩ := rgCall_ok h
  obtain ⟨h1, h2, h3, h4⟩ := g.bl hb
  have hs2 := (noStars_cons hs).2
  exact prg_2 h1 h2 (hE u).e (hE v).e (starEach_cons (noStars_cons hs).1) (starEach_cons (noStars_cons hs2).1) (noStars_trees hs2).1
theorem ok_bltE (g : Good X Z lv c) (hE : ∀ e, OkE X Z (E e) e) {x : Str} {args : List Expr} {p pos : Pos} (hb : isBl c x = true) (hs : noStars args = true) :
    PE X (.Call (.Name x p) args [] pos) (tM Z (evBltE c E x args)) := by
  obtain ⟨h1, h2, h3, h4⟩ := g.bl hb
  unfold evBltE
  split
  · rename_i ex
    subst ex
    split
    · rename_i a
      have h0 := starEach_cons (es := []) (env := X.env) (noStars_cons hs).1
      split
      · rename_i u hu
        exact (pe_listRg g.calm h1 h2 (prg1 g hE hu) h0).weak fun st H Q q => s_lstRg1 q
      · rename_i u v hu
        exact (pe_listRg g.calm h1 h2 (prg2 g hE hu) h0).weak fun st H Q q => s_lstRg2 q
      · exact pe_no
      · exact pe_blt g hE hb rfl hs
    · exact pe_no
  · split
    · rename_i ex
      subst ex
      split
      · rename_i a
        have h0 := starEach_cons (es := []) (env := X.env) (noStars_cons hs).1
        split
        · rename_i u hu
          exact (pe_tupRg g.calm h1 h2 (prg1 g hE hu) h0).weak fun st H Q q => s_tupRg1 q
        · rename_i u v hu
          exact (pe_tupRg g.calm h1 h2 (prg2 g hE hu) h0).weak fun st H Q q => s_tupRg2 q
        · exact pe_no
        · exact pe_blt g hE hb rfl hs
      · exact pe_no
    · split
      · rename_i b a r hx
        exact pe_blt g hE hb hx hs
      · exact pe_no
theorem isTup_ok {tg : Expr} (h : isTup tg = true) : ∃ es k p, tg = .Tuple es k p := by
  unfold isTup at h
  split at h
  · exact ⟨_, _, _, rfl⟩
  · cases h
theorem ok_bltI (g : Good X Z lv c) (hE : ∀ e, OkE X Z (E e) e) {x : Str} {args : List Expr} {p pos : Pos} {tg : Expr} (hb : isBl c x = true) (hs : noStars args = true) :
    PI X tg (.Call (.Name x p) args [] pos) (tMI Z (evBltI c E x args (isTup tg))) := by
  obtain ⟨h1, h2, h3, h4⟩ := g.bl hb
  have ha := ok_args (X := X) (Z := Z) (E := E) hs fun e _ => hE e
  unfold evBltI
  split
  · rename_i ex
    subst ex
    split
    · rename_i a
      exact (pi_range1 h1 h2 ha (starEach_cons (noStars_cons hs).1)).weak fun st H Q q => s_range1 q
    · rename_i a b
      have hs2 := (noStars_cons hs).2
      have e2 := starEach_cons (es := []) (env := X.env) (noStars_cons hs2).1
      have e1 := starEach_cons (es := [b]) (env := X.env) (noStars_cons hs).1
      refine (pi_range2 h1 h2 ha ?_ e2).weak fun st H Q q => s_range2 q
      rw [e1, e2]
      rfl
    · rename_i a b d
      have hs2 := (noStars_cons hs).2
      exact (pi_range3 h1 h2 ha (starEach_cons (noStars_cons hs).1) (noStars_trees hs2).1).weak fun st H Q q => s_range3 q
    · exact pi_no
  · split
    · rename_i ex
      subst ex
      split
      · rename_i a ht
        obtain ⟨es, k, tp, rfl⟩ := isTup_ok ht
        have e1 := starEach_cons (es := []) (env := X.env) (noStars_cons hs).1
        refine (pi_enumA h1 h2 (pa_cons (hE a).e pa_nil e1) e1).weak fun st H Q q => ?_
        rw [← g.K]
        exact s_enum q
      · exact pi_no
    · split
      · rename_i ex
        subst ex
        split
        · rename_i a b ht
          obtain ⟨es, k, tp, rfl⟩ := isTup_ok ht
          have hs2 := (noStars_cons hs).2
          have e2 := starEach_cons (es := []) (env := X.env) (noStars_cons hs2).1
          have e1 := starEach_cons (es := [b]) (env := X.env) (noStars_cons hs).1
          refine (RZ.pi_zipA h1 h2 (pa_cons (hE a).e (pa_cons (hE b).e pa_nil e2) e1) e1 (noStars_trees hs2).1).weak fun st H Q q => ?_
          rw [← g.K]
          exact s_zip q
        · exact pi_no
      · split
        · rename_i ex
          subst ex
          split
          · rename_i a
            have e1 := starEach_cons (es := []) (env := X.env) (noStars_cons hs).1
            split
            · rename_i u hu
              exact (pi_revR h1 h2 (prg1 g hE hu) e1).weak fun st H Q q => s_revRg1 q
            · rename_i u v hu
              exact (pi_revR h1 h2 (prg2 g hE hu) e1).weak fun st H Q q => s_revRg2 q
            · exact pi_no
            · refine (RT.pi_revA h1 h2 (hE a).e e1).weak fun st H Q q => ?_
              rw [← g.K]
              exact s_revA q
          · exact pi_no
        · exact ok_pi g.K (ok_bltE g hE hb hs) tg
theorem ok_call (g : Good X Z lv c) (hE : ∀ e, OkE X Z (E e) e) {f : Expr} {args : List Expr} {kws : List Keyword} {p : Pos} : OkE X Z (evCall c E f args kws p) (.Call f args kws p) := by
  unfold evCall
  split
  · rename_i hs
    have ha := ok_args (X := X) (Z := Z) (E := E) hs fun e _ => hE e
    split
    · rename_i x q
      split
      · rename_i i np sh hx
        split
        · rename_i hg
          split
          · rename_i ks hk
            split
            · rename_i pm hp
              obtain ⟨h1, h2⟩ := g.gl hg
              obtain ⟨fa, fd, ps, hn, hm, kp, F, B⟩ := g.fn x i np sh hx
              refine ok_vt g.K ((pe_callG (E := WE Z.W) F g.gd g.room h1 hm kp (B _ _ _ hp) (fun st => passAt g.tk st) ha (fun hz st H QA q => ?_) (ok_kws (E := E) fun k _ => hE _) hs hk h2).weak fun st H Q q => ?_) rfl
              · subst hz
                exact s_nil q
              · rw [← g.K]
                exact s_callG q
            · exact ok_no
          · exact ok_no
        · exact ok_no
      · exact ok_no
      · split
        · rename_i hb
          split
          · have hv := ok_bltE (p := q) (pos := p) g hE hb hs
            exact ⟨hv, ok_pt g.K hv rfl, fun tg => ok_bltI g hE hb hs⟩
          · exact ok_no
        · exact ok_no
    · rename_i o nm apos
      split
      · split
        · rename_i hc
          simp only [Bool.and_eq_true, decide_eq_true_eq] at hc
          cases args with
          | nil => exact ok_vt g.K ((pe_method0 (hE o).e hc.1.1 hc.2).weak fun st H Q q => s_meth0 X g.K q) rfl
          | cons a r => exact ok_vt g.K ((pe_method (hE o).e ha hc.1.1 hs hc.1.2 hc.2).weak fun st H Q q => s_meth X g.K q) rfl
        · exact ok_no
      · exact ok_no
    · exact ok_no
  · exact ok_no
theorem ok_part (hE : ∀ e, OkE X Z (E e) e) : ∀ {o : Option Expr}, PO X o (tMO Z (evPart E o))
  | none => ⟨fun pins s st H Q I q => po_none.run pins s st H Q I (s_oNone q)⟩
  | some e => ⟨fun pins s st H Q I q => (po_some (hE e).e).run pins s st H Q I (s_part q)⟩
theorem isRevSl_ok {lo hi : Option Expr} {st : Expr} (h : isRevSl lo hi st = true) : ∃ k p1 p2, lo = none ∧ hi = none ∧ st = .UnaryOp .USub (.Constant (.int 1) k p1) p2 := by
  unfold isRevSl at h
  split at h
  · exact ⟨_, _, _, rfl, rfl, rfl⟩
  · cases h
theorem ok_sub (g : Good X Z lv c) (hE : ∀ e, OkE X Z (E e) e) {a sl : Expr} {p : Pos} : OkE X Z (evSub E a sl) (.Subscript a sl p) := by
  unfold evSub
  split
  · rename_i lo hi q
    refine ok_vt g.K ((pe_slice sl_any (hE a).e (ok_part hE) (ok_part hE)).weak fun st H Q q => ?_) rfl
    rw [← g.K]
    exact s_sl q
  · rename_i lo hi st q
    split
    · rename_i h
      obtain ⟨k, p1, p2, rfl, rfl, rfl⟩ := isRevSl_ok h
      refine ok_vt g.K ((pe_revL (hE a).e).weak fun st H Q q => ?_) rfl
      rw [← g.K]
      exact s_rev q
    · exact ok_no
  · rename_i n1 n2
    obtain ⟨h1, h2⟩ := opI_ok X Z g.K
    refine ok_vt g.K ((pe_ix h1 (hE a).e (hE sl).e ?_).weak fun st H Q q => s_bin h2 q) rfl
    intro o i
    cases sl with
    | Slice lo hi st q =>
      cases st with
      | none => exact absurd rfl (n1 _ _ _)
      | some st => exact absurd rfl (n2 _ _ _ _)
    | _ => rfl
end
end PyI
-- PyS
/-! PyS: targets, comprehensions, the whole of an expression -/
namespace PyI
open PySem PySem.Spec PyProof.Rows L2
section
variable {X : Cx} {Z : Zx} {lv : Nat} {c : C} {e : Expr} {E : Expr → EvR} {o : Option (List Nat)}
theorem noG {v : V} {st : L2.St} {H : Hp} {Q : L2.St → Hp → Prop} (h : tMG Z o gNo v st H Q) : False := let ⟨_, _, _, _, _, _, _, p⟩ := h; p
theorem tgOk_ok (g : Good X Z lv c) {x : Str} (h : tgOk c x = true) : L2.Loc X.env.scope x ∧ (X.fn x = true ∨ X.env.scope.names.lookup x = some .local) := by
  unfold tgOk at h
  unfold L2.Loc
  rw [g.sc]
  split at h
  · rename_i q; exact ⟨.inl q, .inr q⟩
  · rename_i q; exact ⟨.inr q, .inl (g.cw x h)⟩
  · cases h
theorem assignEach_cons {e : Expr} {es : List Expr} {env : Env} (h : isStar e = false) : assignEach (e :: es) env = (false, assign e env) :: assignEach es env := by
  cases e <;> first | rfl | cases h
theorem assignEach_plain {env : Env} : ∀ {es : List Expr}, noStars es = true → (assignEach es env).length = es.length ∧ (assignEach es env).findIdx? (·.1) = none
  | [], _ => ⟨rfl, rfl⟩
  | e :: es, h => by
    obtain ⟨h0, h1⟩ := noStars_cons h
    obtain ⟨a, b⟩ := assignEach_plain (env := env) h1
    rw [assignEach_cons h0]
    refine ⟨by simp [a], ?_⟩
    rw [List.findIdx?_cons, b]
    rfl
theorem ok_tgs (g : Good X Z lv c) {f : Expr → Option MG} (hf : ∀ e m, f e = some m → PG X e (tMG Z o m)) : ∀ {es : List Expr} {l : List MG}, noStars es = true → mapO f es = some l → l.length = es.length ∧ PGs X es (tMGs Z o (gsM l))
  | [], _, _, h => by cases h; exact ⟨rfl, pgs_nil.weak fun v st H Q q => s_gsNil q⟩
  | e :: es, l, hs, h => by
    obtain ⟨h0, h1⟩ := noStars_cons hs
    obtain ⟨m, e1, h⟩ := bind_inv h
    obtain ⟨ms, e2, rfl⟩ := map_inv h
    obtain ⟨a, b⟩ := ok_tgs g hf h1 e2
    refine ⟨by simp [a], (pgs_cons (hf e m e1) b ?_).weak fun v st H Q q => s_gsCons q⟩
    rw [assignEach_cons h0]
    rfl
theorem ok_tg (g : Good X Z lv c) (hE : ∀ e, OkE X Z (E e) e) : ∀ (n : Nat) (e : Expr) (m : MG), evG E c o n e = some m → PG X e (tMG Z o m)
  | 0, e, m, h => by cases h
  | n + 1, e, m, h => by
    unfold evG at h
    split at h
    · rename_i x p
      split at h
      · rename_i ht
        obtain ⟨i, hi, h⟩ := bind_inv h
        split at h
        · rename_i hk
          cases h
          obtain ⟨l1, l2⟩ := tgOk_ok g ht
          refine (pg_name (i := i) (by rw [g.N]; exact g.nd) ?_ l1 l2).weak fun v st H Q q => s_gNm hk q
          rw [g.N]
          exact ixOf_get hi
        · cases h
      · cases h
    · rename_i es k p
      split at h
      · rename_i hs
        obtain ⟨l, e1, rfl⟩ := map_inv h
        obtain ⟨a, b⟩ := ok_tgs g (ok_tg g hE n) hs e1
        obtain ⟨c1, c2⟩ := assignEach_plain (env := X.env) hs
        refine (pg_tup g.calm b c1 c2).weak fun v st H Q q => ?_
        rw [← g.K]
        exact s_gTp a q
      · cases h
    · rename_i a b p
      split at h
      · cases h
      · rename_i hb
        cases h
        refine (pg_sub (hE a).e (hE b).e set_list fun v => ?_).weak fun v st H Q q => s_gSub q
        cases b <;> first | rfl | exact absurd rfl hb
    · cases h
theorem unset_fold {e : Expr} {env : Env} (h : isSetE e = false) : ∀ x, foldedSetIterable e env x = pure x := by
  intro x
  cases e <;> first | rfl | cases h
theorem tYes_ok {st : L2.St} {H : Hp} {Q : Bool → Hp → Prop} (h : tMT Z tYesM st H Q) : tYes st H Q := by
  obtain ⟨io, s, h0, hR, hE, p⟩ := h
  exact p.here hR rfl
theorem ok_tests (hE : ∀ e, OkE X Z (E e) e) : ∀ {l : List Expr}, PTs X l (tMT Z (evTests E l))
  | [] => pts_nil.weak fun st H Q q => tYes_ok q
  | [t] => pts_one (hE t).t
  | _ :: _ :: _ => ⟨fun _ _ _ _ _ _ h => (noT h).elim⟩
/-- a comprehension's reading, for name = [..] too -/
theorem lc_parts (g : Good X Z lv c) {E' : Expr → EvR} {elt : Expr} {gens : List Comprehension} {scope : Scope} {P : EvR → Prop} (hno : P evNo)
    (h : ∀ tg iter ifs m, gens = [⟨tg, iter, ifs, 0⟩] → isSetE iter = false → BlkOk c.N c.sc scope (ownOf c.N scope.names) → evG E' (c.blk scope) (some ((ownOf c.N scope.names).map (·.2))) 9 tg = some m →
      P (vt (mLc ((E iter).i (isTup tg)) m (evTests E' ifs) (E' elt).e ((ownOf c.N scope.names).map (·.2))))) : P (evLc E E' c elt gens scope) := by
  unfold evLc
  split
  · rename_i tg iter ifs a
    split
    · rename_i hh
      obtain ⟨ha, hs, hb⟩ := hh
      subst ha
      split
      · rename_i m hm
        exact h tg iter ifs m rfl hs (blkOk_by hb) hm
      · exact hno
    · exact hno
  · exact hno
theorem ok_lc (g : Good X Z lv c) (hE : ∀ e, OkE X Z (E e) e) {E' : Expr → EvR} {scope : Scope} (hE' : ∀ X' Z', Good X' Z' lv (c.blk scope) → ∀ e, OkE X' Z' (E' e) e) {elt : Expr} {gens : List Comprehension} {p : Pos} :
    OkE X Z (evLc E E' c elt gens scope) (.ListComp elt gens scope p) := by
  refine lc_parts g (P := fun r => OkE X Z r (.ListComp elt gens scope p)) ok_no fun tg iter ifs m hg hs hb hm => ?_
  subst hg
  have G := fun (s : Shared) (H : Hp) (L : Addr) (cl : List (Str × Addr)) (fp : List Addr) => g.blk (s := s) (H := H) (L := L) (cl := cl) (fp := fp) hb.kind
  refine ok_vt g.K ((pe_lc g.calm (by rw [g.N]; exact g.nd) ((hE iter).i tg) (own := ownOf c.N scope.names) (by rw [g.N, g.sc]; exact hb) (fun s H L cl fp => ok_tg (G s H L cl fp) (hE' _ _ (G s H L cl fp)) 9 tg m hm)
    (fun s H L cl fp => ok_tests (hE' _ _ (G s H L cl fp))) (fun s H L cl fp => (hE' _ _ (G s H L cl fp) elt).e) (unset_fold hs)).weak fun st H Q q => s_lc q) rfl
/-- THE MIRROR OF AN EXPRESSION IS TRUE -/
theorem ev_ok : ∀ (n : Nat) {X : Cx} {Z : Zx} {lv : Nat} {c : C}, Good X Z lv c → ∀ e, OkE X Z (ev n c e) e
  | 0, X, Z, lv, c, g, e => ok_no
  | n + 1, X, Z, lv, c, g, e => by
    have ih := ev_ok n g
    unfold ev
    split
    · rename_i k j p
      split
      · rename_i d hd
        cases k with
        | none => cases hd; exact ok_lit g.K pe_non (fun _ _ => .non) rfl
        | bool b => cases hd; exact ok_lit g.K pe_bl (fun _ _ => .bl b) rfl
        | int b => cases hd; exact ok_lit g.K pe_int (fun _ _ => .int b) rfl
        | str b => cases hd; exact ok_lit g.K pe_str (fun _ _ => .str b) rfl
        | _ => cases hd
      · exact ok_no
    · exact ok_name g
    · rename_i a op b p
      obtain ⟨r, h1, h2⟩ := opB_ok X Z g.K op
      exact ok_vt g.K ((pe_op h1 (ih a).e (ih b).e).weak fun st H Q q => s_bin h2 q) rfl
    · rename_i op a p
      split
      · exact ok_vt g.K ((pe_un un_neg (ih a).e).weak fun st H Q q => s_neg q) rfl
      · exact ⟨(pe_not (ih a).e).weak fun st H Q q => s_notE q, (pt_not (ih a).t).weak fun st H Q q => s_notT q, fun _ => pi_no⟩
      · exact ok_no
    · rename_i op vs p
      split
      · exact ⟨ok_and fun e _ => ih e, (ok_andT fun e _ => ih e).pt, fun _ => pi_no⟩
      · exact ⟨ok_or fun e _ => ih e, (ok_orT fun e _ => ih e).pt, fun _ => pi_no⟩
    · rename_i t a b p
      have hv := (pe_ifExp (pos := p) (ih t).t (ih a).e (ih b).e).weak fun st H Q q => s_if (Z := Z) q
      exact ⟨hv, pt_no, fun tg => ok_pi g.K hv tg⟩
    · exact ok_cmp g ih
    · exact ok_call g ih
    · exact ok_sub g ih
    · rename_i es p
      split
      · rename_i hs
        exact ok_vt g.K ((pe_lst (ok_args hs fun e _ => ih e)).weak fun st H Q q => s_lst q) rfl
      · exact ok_no
    · rename_i es k p
      split
      · rename_i hs
        exact ok_vt g.K ((pe_tup (ok_args hs fun e _ => ih e)).weak fun st H Q q => s_tup q) rfl
      · exact ok_no
    · exact ok_lc g ih fun X' Z' g' => ev_ok n g'
    · exact ok_no
end
end PyI
-- PyT
/-! PyT: the mirror of a statement -/
namespace PyI
noncomputable section
open PySem PySem.Spec PyProof.Rows L2
theorem sw_len {ts vs : List Expr} {k k2 : Nat} {p p2 : Pos} {env : Env} (h : ts.length ≠ 2 ∧ ts.length ≠ 3) : swappedStores [.Tuple ts k p] (.Tuple vs k2 p2) env = pure none := by
  unfold swappedStores
  simp [h.1, h.2]
theorem sw_fold {ts vs : List Expr} {k k2 : Nat} {p p2 : Pos} {env : Env} (h : vs.all (foldedForSure 8) = true) : swappedStores [.Tuple ts k p] (.Tuple vs k2 p2) env = pure none := by
  unfold swappedStores
  simp only [h]
  simp
def isName : Expr → Bool
  | .Name _ _ => true
  | _ => false
def isSubE : Expr → Bool
  | .Subscript _ _ _ => true
  | _ => false
theorem sw_sub {ts vs : List Expr} {k k2 : Nat} {p p2 : Pos} {env : Env} (h : ts.any (fun e => !isName e) = true) : swappedStores [.Tuple ts k p] (.Tuple vs k2 p2) env = pure none := by
  have key : ∀ (f : Expr → Option Str), (∀ e, isName e = false → f e = none) → (ts.filterMap f).length ≠ ts.length := by
    intro f hf
    have : ∀ l : List Expr, l.any (fun e => !isName e) = true → (l.filterMap f).length < l.length := by
      intro l
      induction l with
      | nil => intro h; cases h
      | cons a r ih =>
        intro h
        rw [List.any_cons, Bool.or_eq_true] at h
        rw [List.filterMap_cons]
        have le := List.length_filterMap_le f r
        rcases h with h | h
        · rw [hf a (by simpa using h)]
          simp
          omega
        · have := ih h
          cases f a with
          | none => simp only [List.length_cons]; omega
          | some z => simp only [List.length_cons]; omega
    exact Nat.ne_of_lt (this ts h)
  unfold swappedStores
  dsimp only
  split
  · rfl
  · split
    · rfl
    · rw [if_pos]
      rw [Bool.or_eq_true]
      left
      rw [bne_iff_ne]
      apply key
      intro e he
      cases e <;> first | rfl | cases he
theorem sw_par {a b : Expr} {x y : Str} {px py : Pos} {k k2 : Nat} {p p2 : Pos} {env : Env} (hk : env.scope.kind = .function) (hx : env.scope.names.lookup x = some .local) (hy : env.scope.names.lookup y = some .local) (hl : py.line = px.line) (hxy : x ≠ y)
    (ha : isStar a = false) (hb : isStar b = false) (hf : [a, b].all (foldedForSure 8) = false) (hc : [a, b].all (constantsAlone 8) = false) :
    swappedStores [.Tuple [.Name x px, .Name y py] k p] (.Tuple [a, b] k2 p2) env = pure (some [x, y]) := by
  have kx : env.kindOf x = some .local := hx
  have ky : env.kindOf y = some .local := hy
  have bk : env.blockKind = .function := by unfold Env.blockKind; rw [hk]; rfl
  have yx : (y == x) = false := by simpa using fun e => hxy e.symm
  unfold swappedStores
  simp [bk, kx, ky, hl, Expr.pos, hf, hc, List.eraseDups, yx]
  rw [if_neg, if_pos]
  · simp [List.eraseDupsBy, List.eraseDupsBy.loop, yx]
  · rintro (z | z)
    · cases a <;> first | exact Bool.noConfusion (show (false : Bool) = true from z) | exact Bool.noConfusion (show true = false from ha)
    · cases b <;> first | exact Bool.noConfusion (show (false : Bool) = true from z) | exact Bool.noConfusion (show true = false from hb)
theorem sw_par3 {a b d : Expr} {x y z : Str} {px py pz : Pos} {k k2 : Nat} {p p2 : Pos} {env : Env} (hk : env.scope.kind = .function) (hx : env.scope.names.lookup x = some .local) (hy : env.scope.names.lookup y = some .local) (hz : env.scope.names.lookup z = some .local)
    (hl : py.line = px.line) (hl2 : pz.line = px.line) (hxy : x ≠ y) (hxz : x ≠ z) (hyz : y ≠ z)
    (ha : isStar a = false) (hb : isStar b = false) (hd : isStar d = false) (hf : [a, b, d].all (foldedForSure 8) = false) (hc : [a, b, d].all (constantsAlone 8) = false) :
    swappedStores [.Tuple [.Name x px, .Name y py, .Name z pz] k p] (.Tuple [a, b, d] k2 p2) env = pure (some [x, y, z]) := by
  have kx : env.kindOf x = some .local := hx
  have ky : env.kindOf y = some .local := hy
  have kz : env.kindOf z = some .local := hz
  have bk : env.blockKind = .function := by unfold Env.blockKind; rw [hk]; rfl
  have yx : (y == x) = false := by simpa using fun e => hxy e.symm
  have zx : (z == x) = false := by simpa using fun e => hxz e.symm
  have zy : (z == y) = false := by simpa using fun e => hyz e.symm
  unfold swappedStores
  simp [bk, kx, ky, kz, hl, hl2, Expr.pos, hf, hc, List.eraseDups, yx, zx, zy]
  rw [if_neg, if_pos]
  · simp [List.eraseDupsBy, List.eraseDupsBy.loop, yx, zx, zy]
  · rintro (z | z | z)
    · cases a <;> first | exact Bool.noConfusion (show (false : Bool) = true from z) | exact Bool.noConfusion (show true = false from ha)
    · cases b <;> first | exact Bool.noConfusion (show (false : Bool) = true from z) | exact Bool.noConfusion (show true = false from hb)
    · cases d <;> first | exact Bool.noConfusion (show (false : Bool) = true from z) | exact Bool.noConfusion (show true = false from hd)
theorem sw_noTup {t e : Expr} {env : Env} (h : isTup e = false) : swappedStores [t] e env = pure none := by
  cases e with
  | Tuple => cases h
  | _ => cases t <;> rfl
theorem sw_noTg {t e : Expr} {env : Env} (h : isName t = true ∨ isSubE t = true) : swappedStores [t] e env = pure none := by
  cases t with
  | Name => cases e <;> rfl
  | Subscript => cases e <;> rfl
  | _ => rcases h with h | h <;> cases h
theorem sw_two {t1 t2 e : Expr} {env : Env} : swappedStores [t1, t2] e env = pure none := by
  cases t1 <;> rfl

/-! ### what is stored from the right -/
def mPar (ix : List Nat) (l : List ME) : MS := fun s h => bindS (mArgs l s h) s fun ds h1 => if ds.length = ix.length then .nx ((ix.zip ds).foldl (fun s p => s.set p.1 (some p.2)) s) h1 else .no
def mAsg2 (a : ME) (g1 g2 : MG) : MS := fun s h => bindS (a s h) s fun d h1 => match g1 d s h1 with
  | some (s1, h2) => (match g2 d s1 h2 with
    | some (s2, h3) => .nx s2 h3
    | none => .no)
  | none => .no
def opA (op : Operator) (x y : D) (h : DH) : Res D := match op, x, y with
  | .Add, .int _, .int _ => opB .Add x y h
  | .Add, .str _, .str _ => opB .Add x y h
  | .Sub, .int _, .int _ => opB .Sub x y h
  | .Mult, .int _, .int _ => opB .Mult x y h
  | _, _, _ => .no
section
variable {X : Cx} {Z : Zx} {lv : Nat} {c : C} {st : L2.St} {H : Hp} {D' : Ends}
theorem s_par2 {i j : Nat} {a b : ME} (h : tMS Z (mPar [i, j] [a, b]) D' st H) : tPar i j (tMA Z (mArgs [a, b])) D' st H := by
  obtain ⟨io, s, h0, hR, hE, p⟩ := h
  refine ⟨io, s, h0, hR, hE, (PostS.bind (rel1 := DRels Z.K) p hE).imp fun vs H1 hx => ?_⟩
  obtain ⟨io1, h1, d1, t1, R1, r1, p1⟩ := hx
  split at p1
  · rename_i hl
    cases r1 with
    | nil => cases hl
    | cons q1 t =>
      cases t with
      | nil => cases hl
      | cons q2 t =>
        cases t with
        | nil => exact ⟨_, _, rfl, p1.hereN R1 (((hE.mono t1).set q1 i).set q2 j)⟩
        | cons _ _ => cases hl
  · exact p1.elim
theorem s_par3 {i j k : Nat} {a b d : ME} (h : tMS Z (mPar [i, j, k] [a, b, d]) D' st H) : tPar3 i j k (tMA Z (mArgs [a, b, d])) D' st H := by
  obtain ⟨io, s, h0, hR, hE, p⟩ := h
  refine ⟨io, s, h0, hR, hE, (PostS.bind (rel1 := DRels Z.K) p hE).imp fun vs H1 hx => ?_⟩
  obtain ⟨io1, h1, d1, t1, R1, r1, p1⟩ := hx
  split at p1
  · rename_i hl
    cases r1 with
    | nil => cases hl
    | cons q1 t =>
      cases t with
      | nil => cases hl
      | cons q2 t =>
        cases t with
        | nil => cases hl
        | cons q3 t =>
          cases t with
          | nil => exact ⟨_, _, _, rfl, p1.hereN R1 ((((hE.mono t1).set q1 i).set q2 j).set q3 k)⟩
          | cons _ _ => cases hl
  · exact p1.elim
theorem s_asg2 {a : ME} {g1 g2 : MG} (h : tMS Z (mAsg2 a g1 g2) D' st H) : tM Z a st H fun x H1 => tMG Z none g1 x st H1 fun st2 H2 => tMG Z none g2 x st2 H2 D'.nx := by
  obtain ⟨io, s, h0, hR, hE, p⟩ := h
  refine ⟨io, s, h0, hR, hE, (PostS.bind (rel1 := DRel Z.K) p hE).imp fun x H1 hx => ?_⟩
  obtain ⟨io1, h1, d1, t1, R1, r1, p1⟩ := hx
  refine ⟨io1, s, h1, d1, R1, hE.mono t1, r1, ?_⟩
  cases e : g1 d1 s h1 with
  | none => rw [e] at p1; exact p1.elim
  | some q =>
    rw [e] at p1
    intro st' H' jo u r2 e2 _
    refine ⟨jo, q.1, q.2, d1, r2, e2, r1.mono u, ?_⟩
    dsimp only at p1
    cases e3 : g2 d1 q.1 q.2 with
    | none => rw [e3] at p1; exact p1.elim
    | some q3 =>
      rw [e3] at p1
      exact fun st' H' jo u' r1 e1 _ => p1 st' H' jo (u.trans u') r1 e1
end
end
end PyI
-- PyU
/-! PyU: the mirror of a statement tells the truth -/
namespace PyI
noncomputable section
open PySem PySem.Spec PyProof.Rows L2
/-! ### a op= b -/
def big64 (i : Int) : Bool := decide (-hid 18446744073709551616 < i) && decide (i < hid 18446744073709551616)
def augAdd (x y : D) (h : DH) : Res D := match x, y with
  | .int i, .int j => .ok (.int (i + j)) h
  | .str i, .str j => if i.length + j.length ≤ 16777216 then .ok (.str (i ++ j)) h else .no
  | _, _ => .no
def augSub (x y : D) (h : DH) : Res D := match x, y with
  | .int i, .int j => .ok (.int (i - j)) h
  | _, _ => .no
def augMul (x y : D) (h : DH) : Res D := match x, y with
  | .int i, .int j => if big64 i || big64 j then .ok (.int (i * j)) h else .no
  | _, _ => .no
def augNo (x y : D) (h : DH) : Res D := .no
def opAug : Operator → D → D → DH → Res D
  | .Add => augAdd
  | .Sub => augSub
  | .Mult => augMul
  | _ => augNo
theorem big64_inv {i : Int} (h : big64 i = true) : -(2 ^ 64) < i ∧ i < 2 ^ 64 := by
  unfold big64 at h
  rw [hid_eq] at h
  simp only [Bool.and_eq_true, decide_eq_true_eq] at h
  omega
theorem opAug_ok (X : Cx) (Z : Zx) (op : Operator) : ∃ r, PIp X op r ∧ OpS Z r (opAug op) := by
  have hz := sizeLine_eq
  have no : ∃ r, PIp X op r ∧ OpS Z r augNo := ⟨rNo, fun _ _ _ _ _ _ _ _ _ _ _ _ h => h.elim, fun io h H st x y dx dy Q R rx ry p => p.elim⟩
  cases op with
  | Add =>
    refine ⟨_, OpR.ror iop_add iop_add_str, fun io h H st x y dx dy Q R rx ry p => ?_⟩
    show ror _ _ _ _ _ _
    have p : PostR Z io H st (DRel Z.K) (augAdd dx dy h) Q := p
    unfold augAdd at p
    split at p
    · cases rx; cases ry; exact .inl ⟨_, _, rfl, rfl, p.here R (.int _)⟩
    · cases rx; cases ry
      split at p
      · exact .inr ⟨_, _, rfl, rfl, by omega, p.here R (.str _)⟩
      · exact p.elim
    · exact p.elim
  | Sub =>
    refine ⟨_, iop_sub, fun io h H st x y dx dy Q R rx ry p => ?_⟩
    have p : PostR Z io H st (DRel Z.K) (augSub dx dy h) Q := p
    unfold augSub at p
    split at p
    · cases rx; cases ry; exact ⟨_, _, rfl, rfl, p.here R (.int _)⟩
    · exact p.elim
  | Mult =>
    refine ⟨_, iop_mul, fun io h H st x y dx dy Q R rx ry p => ?_⟩
    have p : PostR Z io H st (DRel Z.K) (augMul dx dy h) Q := p
    unfold augMul at p
    split at p
    · cases rx; cases ry
      split at p
      · rename_i i j hb
        refine ⟨_, _, rfl, rfl, ?_, p.here R (.int _)⟩
        rw [Bool.or_eq_true] at hb
        rcases hb with hb | hb
        · exact .inl (big64_inv hb)
        · exact .inr (big64_inv hb)
      · exact p.elim
    · exact p.elim
  | _ => exact no

/-! ### the mirror -/
def isCompE : Expr → Bool
  | .ListComp _ _ _ _ | .SetComp _ _ _ _ | .DictComp _ _ _ _ _ => true
  | _ => false
def asgM (a : ME) : Option MG → MS
  | some g => mAsg a g
  | none => mStNo
def parIx (c : C) (l : Nat) : List Expr → Option (List (Str × Nat))
  | [] => some []
  | .Name x p :: r => if c.sc.names.lookup x = some .local ∧ p.line = l then (ixOf x c.N 0).bind fun i => (parIx c l r).map fun q => (x, i) :: q else none
  | _ :: _ => none
def parM (c : C) (E : Expr → EvR) (ts vs : List Expr) : MS := match ts, vs with
  | [.Name x px, .Name y py], [a, b] => if c.sc.names.lookup x = some .local ∧ c.sc.names.lookup y = some .local ∧ py.line = px.line ∧ x ≠ y ∧ isStar a = false ∧ isStar b = false ∧ [a, b].all (constantsAlone 8) = false then
      (match ixOf x c.N 0, ixOf y c.N 0 with
      | some i, some j => mPar [i, j] [(E a).e, (E b).e]
      | _, _ => mStNo) else mStNo
  | [.Name x px, .Name y py, .Name z pz], [a, b, d] => if (c.sc.names.lookup x = some .local ∧ c.sc.names.lookup y = some .local ∧ c.sc.names.lookup z = some .local ∧ py.line = px.line ∧ pz.line = px.line) ∧ (x ≠ y ∧ x ≠ z ∧ y ≠ z) ∧
      (isStar a = false ∧ isStar b = false ∧ isStar d = false ∧ [a, b, d].all (constantsAlone 8) = false) then
      (match ixOf x c.N 0, ixOf y c.N 0, ixOf z c.N 0 with
      | some i, some j, some k => mPar [i, j, k] [(E a).e, (E b).e, (E d).e]
      | _, _, _ => mStNo) else mStNo
  | _, _ => mStNo
def asgTup (c : C) (E : Expr → EvR) (t v : Expr) (vs : List Expr) : MS := match t with
  | .Tuple ts _ _ => if vs.all (foldedForSure 8) || ts.any (fun e => !isName e) || (decide (ts.length ≠ 2) && decide (ts.length ≠ 3)) then asgM (E v).e (evG E c none 9 t) else parM c E ts vs
  | t => if isName t || isSubE t then asgM (E v).e (evG E c none 9 t) else mStNo
def asgLc (c : C) (E : Expr → EvR) (t v : Expr) (vp : Pos) (scope : Scope) : MS := match t with
  | .Name y py => if c.sc.names.lookup y = some .local ∧ py.line = vp.line ∧ (scope.names.any fun p => p.1 == y && (p.2 == .local || p.2 == .cell)) = false then asgM (E v).e ((ixOf y c.N 0).map gNm) else mStNo
  | t => if isSubE t then asgM (E v).e (evG E c none 9 t) else mStNo
def evAsg (c : C) (E : Expr → EvR) (ts : List Expr) (v : Expr) : MS := match ts with
  | [t] => (match v with
    | .ListComp _ _ scope vp => asgLc c E t v vp scope
    | .Tuple vs _ _ => asgTup c E t v vs
    | v => if isCompE v || isStar t then mStNo else asgM (E v).e (evG E c none 9 t))
  | [t1, t2] => if isStar t1 || isStar t2 then mStNo else (match evG E c none 9 t1, evG E c none 9 t2 with
    | some g1, some g2 => mAsg2 (E v).e g1 g2
    | _, _ => mStNo)
  | _ => mStNo
def evFor (c : C) (E : Expr → EvR) (tg iter : Expr) (b : MS) : MS := if isSetE iter then mStNo else (match evG E c none 9 tg with
  | some g => mFor ((E iter).i (isTup tg)) g b
  | none => mStNo)
def evAug (c : C) (E : Expr → EvR) (t : Expr) (op : Operator) (e : Expr) : MS := match t with
  | .Name x _ => if tgOk c x then (match ixOf x c.N 0 with
    | some i => mAug i (opAug op) (E e).e
    | none => mStNo) else mStNo
  | _ => mStNo
def evS (E : Expr → EvR) (c : C) : Nat → Stmt → MS
  | 0, _ => mStNo
  | n + 1, s => match s with
    | .Return o _ => (match o with
      | some e => mRet (E e).e
      | none => mRetN)
    | .Expr e _ => if isCompE e then mStNo else mDrop (E e).e
    | .Assign ts v _ => evAsg c E ts v
    | .AugAssign t op e _ => evAug c E t op e
    | .If t a b _ => mIfS (E t).t (mBlock (a.map (evS E c n))) (mBlock (b.map (evS E c n)))
    | .While t b o _ => (match o with
      | [] => mWhile (E t).t (mBlock (b.map (evS E c n)))
      | _ :: _ => mStNo)
    | .For tg iter b o _ => (match o with
      | [] => evFor c E tg iter (mBlock (b.map (evS E c n)))
      | _ :: _ => mStNo)
    | .Pass _ => mNext
    | .Break _ => mBrk
    | .Continue _ => mCnt
    | _ => mStNo

section
variable {X : Cx} {Z : Zx} {lv : Nat} {c : C} {E : Expr → EvR}
theorem ps_no {s : Stmt} : PS X s (tMS Z mStNo) := ⟨fun _ _ _ _ _ _ h => let ⟨_, _, _, _, _, p⟩ := h; p.elim⟩
theorem ok_block {f : Stmt → MS} (h : ∀ s, PS X s (tMS Z (f s))) : ∀ {l : List Stmt}, PSs X l (tMS Z (mBlock (l.map f)))
  | [] => pss_nil.weak fun D st H q => s_next q
  | a :: r => (pss_cons (h a) (ok_block h)).weak fun D st H q => s_seq q
theorem plain_sw {v : Expr} {o : Option Expr} {l : Nat} {env : Env} (h : isCompE v = false) : swapsWith v o l env = pure false := by
  cases v <;> first | rfl | cases h
theorem one_target {t : Expr} {env : Env} (h : isStar t = false) : (assignEach [t] env).map (·.2) = [assign t env] := by
  rw [assignEach_cons h]
  rfl
theorem evG_star {n : Nat} {o : Option (List Nat)} {t : Expr} {m : MG} (h : evG E c o n t = some m) : isStar t = false := by
  cases n with
  | zero => cases h
  | succ n => cases t <;> first | rfl | cases h
theorem ok_asgM (g : Good X Z lv c) (hE : ∀ e, OkE X Z (E e) e) {t v : Expr} {pos : Pos} (hs : isCompE v = false ∨ isSubE t = true) (hw : swappedStores [t] v X.env = pure none) : PS X (.Assign [t] v pos) (tMS Z (asgM (E v).e (evG E c none 9 t))) := by
  cases e : evG E c none 9 t with
  | none => exact ps_no
  | some m =>
    refine (ps_asg (hE v).e (ok_tg g hE 9 t m e) ?_ hw (one_target (evG_star e))).weak fun D st H q => s_asg q
    show swapsWith v (some t) pos.line X.env = pure false
    rcases hs with h | h
    · exact plain_sw h
    · unfold isSubE at h
      split at h
      · unfold swapsWith
        cases v <;> rfl
      · cases h
theorem ok_parM (g : Good X Z lv c) (hE : ∀ e, OkE X Z (E e) e) {ts vs : List Expr} {k k2 : Nat} {p p2 pos : Pos} (hf : vs.all (foldedForSure 8) = false) : PS X (.Assign [.Tuple ts k p] (.Tuple vs k2 p2) pos) (tMS Z (parM c E ts vs)) := by
  have hn : X.N.Nodup := by rw [g.N]; exact g.nd
  have kd : X.env.scope.kind = .function := by rw [g.sc]; exact g.kd
  have neq : ∀ {x y : Str} {i j : Nat}, x ≠ y → ixOf x c.N 0 = some i → ixOf y c.N 0 = some j → i ≠ j := fun h e1 e2 z => by
    subst z
    have a := ixOf_get e1
    have b := ixOf_get e2
    rw [a] at b
    exact h (Option.some.inj b)
  unfold parM
  split
  · rename_i x px y py a b
    split
    · rename_i h
      obtain ⟨hx, hy, hl, hxy, ha, hb, hc⟩ := h
      split
      · rename_i i j ei ej
        rw [← g.sc] at hx hy
        have h1 : noStars [a, b] = true := by unfold noStars; simp [ha, hb]
        exact (ps_par g.calm hn (by rw [g.N]; exact ixOf_get ei) (by rw [g.N]; exact ixOf_get ej) (neq hxy ei ej) hx hy (ok_args h1 fun e _ => hE e) (sw_par kd hx hy hl hxy ha hb hf hc)).weak fun D st H q => s_par2 q
      · exact ps_no
    · exact ps_no
  · rename_i x px y py z pz a b d
    split
    · rename_i h
      obtain ⟨⟨hx, hy, hz, hl, hl2⟩, ⟨hxy, hxz, hyz⟩, ha, hb, hd, hc⟩ := h
      split
      · rename_i i j m ei ej em
        rw [← g.sc] at hx hy hz
        have h1 : noStars [a, b, d] = true := by unfold noStars; simp [ha, hb, hd]
        exact (ps_par3 g.calm hn (by rw [g.N]; exact ixOf_get ei) (by rw [g.N]; exact ixOf_get ej) (by rw [g.N]; exact ixOf_get em) (neq hxy ei ej) (neq hxz ei em) (neq hyz ej em) hx hy hz (ok_args h1 fun e _ => hE e)
          (sw_par3 kd hx hy hz hl hl2 hxy hxz hyz ha hb hd hf hc)).weak fun D st H q => s_par3 q
      · exact ps_no
    · exact ps_no
  · exact ps_no
end
end
end PyI
-- PyV
/-! PyV: .. every statement of the mirror; defs -/
namespace PyI
noncomputable section
open PySem PySem.Spec PyProof.Rows L2
section
variable {X : Cx} {Z : Zx} {lv : Nat} {c : C} {E : Expr → EvR}
theorem nameOrSub {t : Expr} (h : (isName t || isSubE t) = true) : isTup t = false ∧ (isName t = true ∨ isSubE t = true) := by
  cases t <;> first | exact ⟨rfl, .inl rfl⟩ | exact ⟨rfl, .inr rfl⟩ | cases h
theorem ok_asgTup (g : Good X Z lv c) (hE : ∀ e, OkE X Z (E e) e) {t : Expr} {vs : List Expr} {k : Nat} {p pos : Pos} : PS X (.Assign [t] (.Tuple vs k p) pos) (tMS Z (asgTup c E t (.Tuple vs k p) vs)) := by
  have gen : (isName t || isSubE t) = true → PS X (.Assign [t] (.Tuple vs k p) pos) (tMS Z (asgM (E (.Tuple vs k p)).e (evG E c none 9 t))) := fun h => ok_asgM g hE (.inl rfl) (sw_noTg (nameOrSub h).2)
  unfold asgTup
  split
  · rename_i ts k2 p2
    split
    · rename_i h
      refine ok_asgM g hE (.inl rfl) ?_
      simp only [Bool.or_eq_true, Bool.and_eq_true, decide_eq_true_eq] at h
      rcases h with (h | h) | h
      · exact sw_fold h
      · exact sw_sub h
      · exact sw_len h
    · rename_i h
      simp only [Bool.or_eq_true, not_or] at h
      exact ok_parM g hE (by simpa using h.1.1)
  · split
    · rename_i h
      exact gen h
    · exact ps_no
theorem ok_setLc (g : Good X Z lv c) (hE : ∀ e, OkE X Z (E e) e) {E' : Expr → EvR} {scope : Scope} (hE' : ∀ X' Z', Good X' Z' lv (c.blk scope) → ∀ e, OkE X' Z' (E' e) e) {y : Str} {py vp pos : Pos} {i : Nat} {elt : Expr} {gens : List Comprehension}
    (hy : c.sc.names.lookup y = some .local) (hl : py.line = vp.line) (ha : (scope.names.any fun p => p.1 == y && (p.2 == .local || p.2 == .cell)) = false) (hi : ixOf y c.N 0 = some i) :
    PS X (.Assign [.Name y py] (.ListComp elt gens scope vp) pos) (tMS Z (mAsg (evLc E E' c elt gens scope).e (gNm i))) := by
  have hno : PS X (.Assign [.Name y py] (.ListComp elt gens scope vp) pos) (tMS Z (mAsg evNo.e (gNm i))) := ⟨fun _ _ _ _ _ _ h => let ⟨_, _, _, _, _, p⟩ := h; p.elim⟩
  refine lc_parts g (P := fun r => PS X (.Assign [.Name y py] (.ListComp elt gens scope vp) pos) (tMS Z (mAsg r.e (gNm i)))) hno fun tg iter ifs m hg hs hb hm => ?_
  subst hg
  have G := fun (s : Shared) (H : Hp) (L : Addr) (cl : List (Str × Addr)) (fp : List Addr) => g.blk (s := s) (H := H) (L := L) (cl := cl) (fp := fp) hb.kind
  rw [← g.sc] at hy
  refine (ps_setLc g.calm (by rw [g.N]; exact g.nd) (i := i) (by rw [g.N]; exact ixOf_get hi) hy (sw_true (by rw [g.sc]; exact g.kd) hy (by simpa using hl) ha) ((hE iter).i tg) (own := ownOf c.N scope.names) (by rw [g.N, g.sc]; exact hb)
    (fun s H L cl fp => ok_tg (G s H L cl fp) (hE' _ _ (G s H L cl fp)) 9 tg m hm) (fun s H L cl fp => ok_tests (hE' _ _ (G s H L cl fp))) (fun s H L cl fp => (hE' _ _ (G s H L cl fp) elt).e) (unset_fold hs)).weak fun D st H q => ?_
  have q := s_asg q
  show tLc _ _ _ _ _ st H _
  exact s_lc (tM.imp q fun v H1 q => s_gNm (o := none) rfl q)
theorem ok_asgLc {n : Nat} (g : Good X Z lv c) {t elt : Expr} {gens : List Comprehension} {scope : Scope} {vp pos : Pos} : PS X (.Assign [t] (.ListComp elt gens scope vp) pos) (tMS Z (asgLc c (ev (n + 1) c) t (.ListComp elt gens scope vp) vp scope)) := by
  unfold asgLc
  split
  · rename_i y py
    split
    · rename_i h
      cases e : ixOf y c.N 0 with
      | none => exact ps_no
      | some i => exact ok_setLc g (ev_ok n g) (fun X' Z' g' => ev_ok n g') h.1 h.2.1 h.2.2 e
    · exact ps_no
  · split
    · rename_i h
      refine ok_asgM g (ev_ok (n + 1) g) (.inr h) (sw_noTg (.inr h))
    · exact ps_no
theorem ok_asg {n : Nat} (g : Good X Z lv c) {ts : List Expr} {v : Expr} {pos : Pos} : PS X (.Assign ts v pos) (tMS Z (evAsg c (ev (n + 1) c) ts v)) := by
  have hE := ev_ok (n + 1) g
  unfold evAsg
  split
  · rename_i t
    split
    · exact ok_asgLc g
    · exact ok_asgTup g hE
    · rename_i n1 n2
      split
      · exact ps_no
      · rename_i h
        simp only [Bool.or_eq_true, not_or] at h
        refine ok_asgM g hE (.inl (by simpa using h.1)) (sw_noTup ?_)
        cases v <;> first | rfl | exact absurd rfl (n2 _ _ _)
  · rename_i t1 t2
    split
    · exact ps_no
    · rename_i h
      simp only [Bool.or_eq_true, not_or] at h
      split
      · rename_i g1 g2 e1 e2
        refine (ps_asg2 (hE v).e (ok_tg g hE 9 t1 g1 e1) (ok_tg g hE 9 t2 g2 e2) ?_ sw_two).weak fun D st H q => s_asg2 q
        rw [assignEach_cons (by simpa using h.1), assignEach_cons (by simpa using h.2)]
        rfl
      · exact ps_no
  · exact ps_no
theorem ok_s {n : Nat} (g : Good X Z lv c) (own : PassesOwn (model X.prog X.w) X.A X.env X.xe) : ∀ (m : Nat) (s : Stmt), PS X s (tMS Z (evS (ev (n + 1) c) c m s))
  | 0, s => ps_no
  | m + 1, s => by
    have hE := ev_ok (n + 1) g
    have ih := ok_s (n := n) g own m
    unfold evS
    split
    · split
      · exact (ps_ret (hE _).e).weak fun D st H q => s_ret q
      · exact ps_retN.weak fun D st H q => s_retN q
    · split
      · exact ps_no
      · rename_i h
        exact (ps_expr (hE _).e (plain_sw (by simpa using h))).weak fun D st H q => s_drop q
    · exact ok_asg g
    · rename_i t op e p
      unfold evAug
      split
      · split
        · rename_i ht
          split
          · rename_i i hi
            obtain ⟨r, h1, h2⟩ := opAug_ok X Z op
            obtain ⟨l1, l2⟩ := tgOk_ok g ht
            exact (ps_aug (i := i) (by rw [g.N]; exact g.nd) (by rw [g.N]; exact ixOf_get hi) l1 (hE _).e h1 l2).weak fun D st H q => s_aug h2 q
          · exact ps_no
        · exact ps_no
      · exact ps_no
    · exact (ps_if (hE _).t (ok_block ih) (ok_block ih)).weak fun D st H q => s_ifS q
    · split
      · exact (ps_while own (hE _).t (ok_block ih)).weak fun D st H q => s_while q
      · exact ps_no
    · split
      · unfold evFor
        split
        · exact ps_no
        · rename_i hs
          split
          · rename_i m' hm
            exact (ps_for own g.calm ((hE _).i _) (ok_tg g hE 9 _ m' hm) (ok_block ih) (unset_fold (by simpa using hs))).weak fun D st H q => s_for q
          · exact ps_no
      · exact ps_no
    · exact ps_pass.weak fun D st H q => s_next q
    · exact ps_break.weak fun D st H q => s_brk q
    · exact ps_continue.weak fun D st H q => s_cnt q
    · exact ps_no
end

/-! ### defs -/
structure DefI where
  name : Str
  ps : List Str
  N : List Str
  st : Stmt
def runB (m : MS) (n : Nat) (ds : List D) (h : DH) : Res D := match m (ds.map some ++ List.replicate (n - ds.length) none) h with
  | .nx _ h => .ok .non h
  | .rt d h => .ok d h
  | .ex x _ h => .exc x h
  | _ => .no
def cxD (G : List (Str × GV)) (B : List Str) (F : Nat → List D → DH → Res D) (d : DefI) : C := ⟨d.N, defScope d.st, G, B, F, fun _ => true⟩
def bodyM (G : List (Str × GV)) (B : List Str) (F : Nat → List D → DH → Res D) (d : DefI) : MS := mBlock ((defBody d.st).map (evS (ev 30 (cxD G B F d)) (cxD G B F d) 30))
/-- the defs by number; level by level -/
def Fs (G : List (Str × GV)) (B : List Str) (T : List DefI) : Nat → Nat → List D → DH → Res D
  | 0, _, _, _ => .no
  | n + 1, i, ds, h => match T[i]? with
    | some d => if ds.length = d.ps.length then runB (bodyM G B (Fs G B T n) d) d.N.length ds h else .no
    | none => .no
/-- what is known of the text behind the top -/
structure Txt (K : PySem.W.Frag) (mg : Str → Option Value) (G : List (Str × GV)) (B : List Str) (T : List DefI) : Prop where
  blt : ∀ x, B.contains x = true → mg x = none
  con : ∀ x d, G.lookup x = some (.con d) → ∃ v u, mg x = some u ∧ RelV v u ∧ ∀ io H, DRel K io H v d
  df : ∀ (i : Nat) (d : DefI), T[i]? = some d → ∃ f fd, Fun K d.name d.name d.st f fd ∧ FnScope d.N d.ps (defScope d.st) ∧ d.ps.length ≤ d.N.length
  fn : ∀ x i np sh, G.lookup x = some (.fn i np sh) → ∃ d : DefI, T[i]? = some d ∧ d.ps.length = np ∧ ∃ f fd, Fun K d.name d.name d.st f fd ∧ mg x = some (.ref f) ∧ ∀ n ks pm, findSh sh n ks = some pm → BindK K fd d.ps n ks pm
theorem runB_post {Z : Zx} {io : List Addr} {H : Hp} {m : MS} {n : Nat} {ds : List D} {h : DH} {Q : VK} {E : XK} (e : Z.W = fun cl d _ H => E cl d H) (p : PostR ⟨Z.K, Z.Cs, fun c d _ H => E c d H⟩ io H [] (DRel Z.K) (runB m n ds h) Q) :
    PostS Z io H (m (ds.map some ++ List.replicate (n - ds.length) none) h) { nx := fun _ H' => Q .non H', rt := Q } := by
  unfold runB at p
  cases q : m (ds.map some ++ List.replicate (n - ds.length) none) h with
  | nx s h' => rw [q] at p; exact fun st H' jo u r1 r2 => p .non H' jo u r1 .non
  | rt d h' => rw [q] at p; exact p
  | ex x s h' =>
    rw [q] at p
    intro cls dd st H' jo u r1 r2 r3
    rw [e]
    exact p cls dd H' jo u r1 r3
  | bk s h' => rw [q] at p; exact p.elim
  | ct s h' => rw [q] at p; exact p.elim
  | no => rw [q] at p; exact p.elim
theorem EnvR.start {K : PySem.W.Frag} {io : List Addr} {H : Hp} {N : List Str} {vs : List V} {ds : List D} (r : DRels K io H vs ds) : EnvR K io H (L2.start N vs) (ds.map some ++ List.replicate (N.length - ds.length) none) := by
  have hl := r.length
  refine ⟨by unfold L2.start; simp [hl], fun i d e => ?_⟩
  unfold L2.start
  by_cases hi : i < ds.length
  · rw [List.getElem?_append_left (by simpa using hi), List.getElem?_map] at e
    obtain ⟨d', e1, e2⟩ := map_inv e
    cases e2
    obtain ⟨v, h1, h2⟩ := r.get e1
    refine ⟨v, ?_, h2⟩
    rw [List.getElem?_append_left (by simp; omega), List.getElem?_map, h1]
    rfl
  · rw [List.getElem?_append_right (by simp; omega), List.getElem?_replicate] at e
    split at e <;> cases e
/-- THE DEFS KEEP THE MIRROR'S PROMISES, level by level -/
theorem fs_ok {P : Program} {w : World} {K : PySem.W.Frag} {mg : Str → Option Value} {base : Heap} {Cs : List Addr} {G : List (Str × GV)} {B : List Str} {T : List DefI} (tx : Txt K mg G B T) :
    ∀ (n i : Nat) (d : DefI) (f : Addr) (fd : FuncData), T[i]? = some d → Fun K d.name d.name d.st f fd → FnG P w K mg base (L2.CX P w) n f fd d.ps (spM K Cs d.ps.length (Fs G B T n i))
  | 0, i, d, f, fd, ed, F => by
    refine ⟨fun vs H Q E h => ?_, fun A outer s H args us vs Q E _ _ _ _ _ h => ?_⟩
    · obtain ⟨io, ds, h0, _, _, _, p⟩ := h
      exact p.elim
    · obtain ⟨io, ds, h0, _, _, _, p⟩ := h
      exact p.elim
  | n + 1, i, d, f, fd, ed, F => by
    obtain ⟨_, _, _, S, hps⟩ := tx.df i d ed
    refine fnG_of F S (fun vs H Q E h => ?_) fun cdv A outer s H vs Q E gd room h => ?_
    · obtain ⟨io, ds, h0, _, _, l, p⟩ := h
      exact l
    · obtain ⟨io, ds, h0, hR, hds, hl, p⟩ := h
      have hl2 := hds.length
      have g : Good (cxOf (L2.CX P w) P w K mg base d.N d.name (defScope d.st) f cdv A outer s H E) ⟨K, Cs, fun c d _ H => E c d H⟩ n (cxD G B (Fs G B T n) d) :=
        { K := rfl, N := rfl, nd := S.nd, sc := rfl, kd := S.kind, calm := rfl, gd := gd, room := room, tk := takes_of rfl rfl rfl rfl, cw := fun _ h => h, blt := tx.blt, con := tx.con,
          fn := fun x j np sh hx => by
            obtain ⟨d', e1, e2, f', fd', F', hm, hb⟩ := tx.fn x j np sh hx
            refine ⟨f', fd', d'.ps, e2, hm, F'.kp, ?_, hb⟩
            subst e2
            exact fs_ok tx n j d' f' fd' e1 F' }
      refine ⟨_, ok_block (ok_s (n := 29) g PassesOwn.leaving 30), io, _, h0, hR, EnvR.start hds, ?_⟩
      have p : PostR ⟨K, Cs, fun c d _ H => E c d H⟩ io H [] (DRel K) (Fs G B T (n + 1) i ds h0) Q := p
      unfold Fs at p
      rw [ed] at p
      dsimp only at p
      rw [if_pos (by rw [← hl2]; exact hl)] at p
      exact runB_post (Z := ⟨K, Cs, fun c d _ H => E c d H⟩) rfl p
end
end PyI
-- PyW
/-! PyW: a law by its mirror -/
namespace PyI
noncomputable section
open PySem PySem.Spec PyProof.Rows L2
/-- the mirror answers True on every script -/
def Says (F : List D → DH → Res D) (n : Nat) : Prop := ∀ ns : List Int, ns.length ≤ n → ∃ h', F [.scr ns] [] = .ok (.bl true) h'
theorem says_asked {K : PySem.W.Frag} {Cs : List Addr} {F : List D → DH → Res D} {n : Nat} (s : Says F n) (H : Hp) (a : Addr) (ns : List Int) (h1 : ns.length ≤ n) (h2 : SqF K H a (ns.map V.int)) :
    spM K Cs 1 F [.ref a] H (fun v _ => v = .bl true) fun _ _ _ => False := by
  obtain ⟨h', e⟩ := s ns h1
  refine ⟨[], [.scr ns], [], ⟨rfl, List.nodup_nil, fun n o e => by simp at e⟩, .cons (.scr h2) .nil, rfl, ?_⟩
  rw [e]
  intro v H' jo _ _ r
  cases r
  rfl
theorem law_M {l : PySem.W.OpenLaw} {n k : Nat} {q : Program} {loose : List Str} {XP : (Str → Option Value) → Heap → Prop} {YP : World → Heap → Prop} {d : DefRec} {K : Params → PySem.W.Frag} {x : Str}
    {G : List (Str × GV)} {B : List Str} {T : List DefI} {i : Nat} {di : DefI}
    (most : l.most = some n) (small : n ≤ sizeLine) (plain : d.params.defaults = []) (room : Room k callerA) (hY : ∀ (w : World) (h : Heap), YP w h → (K w.params).In h)
    (hi : T[i]? = some di) (hps : di.ps = [x]) (says : Says (Fs G B T k i) n)
    (F : ∀ (w : World) (mg : Str → Option Value) (fa : Addr) (h : Heap), (K w.params).In h → h.Ns mainGlobals mg → mg d.name = some (.ref fa) →
      ∃ fd, (∀ (s : Shared) (u : Value), BindsTo s fd ⟨[u], []⟩ [(x, u)]) ∧ Fun (K w.params) di.name di.name di.st fa fd ∧ Txt (K w.params) mg G B T) :
    PySem.W.WalkO q loose XP YP l.row.toRowW d [] (fun f vs => PySem.call f vs) :=
  walk_G (k := k) (x := x) most small plain room fun w mg fa h Y glob hmg => by
    obtain ⟨fd, bind, fn, tx⟩ := F w mg fa h (hY w h Y) glob hmg
    refine ⟨K w.params, fd, spM (K w.params) [] di.ps.length (Fs G B T k i), hY w h Y, bind, fun H a ns h1 h2 _ => ?_, fun base _ _ => ?_⟩
    · rw [hps]
      exact says_asked says H a ns h1 h2
    · rw [← hps]
      exact fs_ok tx k i di fa fd hi fn
end
end PyI
namespace PyI
noncomputable section
open PySem PySem.Spec PyProof.Rows L2
/-! ### the text's facts, one by one -/
section
variable {K : PySem.W.Frag} {mg : Str → Option Value} {T : List DefI}
theorem blt_nil : ∀ x : Str, ([] : List Str).contains x = true → mg x = none := fun x h => by simp at h
theorem blt_cons {a : Str} {l : List Str} (h : mg a = none) (t : ∀ x : Str, l.contains x = true → mg x = none) : ∀ x : Str, (a :: l).contains x = true → mg x = none := fun x e => by
  rw [List.contains_cons, Bool.or_eq_true] at e
  rcases e with e | e
  · rw [show x = a by simpa using e]; exact h
  · exact t x e
theorem sh_nil {fd : FuncData} {ps : List Str} : ∀ (n : Nat) (ks : List Str) (pm : List Nat), findSh [] n ks = some pm → BindK K fd ps n ks pm := fun _ _ _ h => by cases h
theorem sh_cons {fd : FuncData} {ps : List Str} {n0 : Nat} {ks0 : List Str} {pm0 : List Nat} {r : List (Nat × List Str × List Nat)} (h : BindK K fd ps n0 ks0 pm0) (t : ∀ (n : Nat) (ks : List Str) (pm : List Nat), findSh r n ks = some pm → BindK K fd ps n ks pm) :
    ∀ (n : Nat) (ks : List Str) (pm : List Nat), findSh ((n0, ks0, pm0) :: r) n ks = some pm → BindK K fd ps n ks pm := fun n ks pm e => by
  unfold findSh at e
  split at e
  · rename_i q
    cases e
    rw [← q.1, ← q.2]
    exact h
  · exact t n ks pm e
/-- one entry of the names -/
def Entry (K : PySem.W.Frag) (mg : Str → Option Value) (T : List DefI) (x : Str) : GV → Prop
  | .con d => ∃ v u, mg x = some u ∧ RelV v u ∧ ∀ io H, DRel K io H v d
  | .fn i np sh => ∃ d : DefI, T[i]? = some d ∧ d.ps.length = np ∧ ∃ f fd, Fun K d.name d.name d.st f fd ∧ mg x = some (.ref f) ∧ ∀ n ks pm, findSh sh n ks = some pm → BindK K fd d.ps n ks pm
def Entries (K : PySem.W.Frag) (mg : Str → Option Value) (T : List DefI) : List (Str × GV) → Prop
  | [] => True
  | p :: r => Entry K mg T p.1 p.2 ∧ Entries K mg T r
theorem entry_of {x : Str} {gv : GV} : ∀ {l : List (Str × GV)}, Entries K mg T l → l.lookup x = some gv → Entry K mg T x gv
  | p :: r, h, e => by
    rw [List.lookup_cons] at e
    split at e
    · rename_i q
      cases e
      rw [show x = p.1 by simpa using q]
      exact h.1
    · exact entry_of h.2 e
def DefsOk (K : PySem.W.Frag) : List DefI → Prop
  | [] => True
  | d :: r => (∃ f fd, Fun K d.name d.name d.st f fd ∧ FnScope d.N d.ps (defScope d.st) ∧ d.ps.length ≤ d.N.length) ∧ DefsOk K r
theorem defs_of : ∀ {l : List DefI} {i : Nat} {d : DefI}, DefsOk K l → l[i]? = some d → ∃ f fd, Fun K d.name d.name d.st f fd ∧ FnScope d.N d.ps (defScope d.st) ∧ d.ps.length ≤ d.N.length
  | _ :: _, 0, d, h, e => by
    simp at e
    subst e
    exact h.1
  | _ :: r, i + 1, d, h, e => defs_of h.2 (by simpa using e)
theorem txt_of {G : List (Str × GV)} {B : List Str} (h1 : ∀ x : Str, B.contains x = true → mg x = none) (h2 : Entries K mg T G) (h3 : DefsOk K T) : Txt K mg G B T where
  blt := h1
  con := fun x d e => entry_of h2 e
  df := fun i d e => defs_of h3 e
  fn := fun x i np sh e => entry_of h2 e
theorem con_int {x : Str} {i : Int} {t : Tok} (h : mg x = some (.int i t)) : Entry K mg T x (.con (.int i)) := ⟨.int i, _, h, ⟨t, rfl⟩, fun _ _ => .int i⟩
theorem con_str {x y : Str} {t : Tok} (h : mg x = some (.str y t)) : Entry K mg T x (.con (.str y)) := ⟨.str y, _, h, ⟨t, rfl⟩, fun _ _ => .str y⟩
end
end
end PyI
-- PyX
/-! PyX: a calculus of wishes for the mirror (plain Lean from here on) -/
namespace PyI
noncomputable section
open PySem PySem.Spec L2

def wpR {α : Type} (r : Res α) (Q : α → DH → Prop) (E : Exn → DH → Prop) : Prop := match r with
  | .ok a h => Q a h
  | .exc x h => E x h
  | .no => False
structure Pst where
  nx : DS → DH → Prop
  rt : D → DH → Prop
  bk : DS → DH → Prop
  ct : DS → DH → Prop
  ex : Exn → DS → DH → Prop
def wpS (r : SR) (P : Pst) : Prop := match r with
  | .nx s h => P.nx s h
  | .rt d h => P.rt d h
  | .bk s h => P.bk s h
  | .ct s h => P.ct s h
  | .ex x s h => P.ex x s h
  | .no => False
def gEx (r : Option (DS × DH)) (k : DS → DH → Prop) : Prop := match r with
  | some p => k p.1 p.2
  | none => False
section
variable {α β : Type} {Q Q' : α → DH → Prop} {E : Exn → DH → Prop} {P P' : Pst} {s : DS} {h : DH}
theorem wpR_mono {r : Res α} (w : wpR r Q E) (q : ∀ a h, Q a h → Q' a h) : wpR r Q' E := by
  cases r with
  | ok a h => exact q a h w
  | exc x h => exact w
  | no => exact w
theorem wpS_mono {r : SR} (w : wpS r P) (h1 : ∀ s h, P.nx s h → P'.nx s h) (h2 : ∀ s h, P.rt s h → P'.rt s h) (h3 : ∀ s h, P.bk s h → P'.bk s h) (h4 : ∀ s h, P.ct s h → P'.ct s h) (h5 : ∀ x s h, P.ex x s h → P'.ex x s h) : wpS r P' := by
  cases r with
  | nx s h => exact h1 _ _ w
  | rt s h => exact h2 _ _ w
  | bk s h => exact h3 _ _ w
  | ct s h => exact h4 _ _ w
  | ex x s h => exact h5 _ _ _ w
  | no => exact w
theorem wpR_ex {r : Res α} (w : wpR r Q fun _ _ => False) : ∃ a h, r = .ok a h ∧ Q a h := by
  cases r with
  | ok a h => exact ⟨a, h, rfl, w⟩
  | exc x h => exact w.elim
  | no => exact w.elim
@[simp] theorem wpR_ok {a : α} : wpR (.ok a h) Q E = Q a h := rfl
@[simp] theorem wpR_exc {x : Exn} : wpR (.exc x h) Q E = E x h := rfl
@[simp] theorem wpR_no : wpR .no Q E = False := rfl
@[simp] theorem wpR_bind {r : Res β} {f : β → DH → Res α} : wpR (r.bind f) Q E = wpR r (fun a h => wpR (f a h) Q E) E := by cases r <;> rfl
@[simp] theorem wpR_ite {c : Prop} [Decidable c] {a b : Res α} : wpR (if c then a else b) Q E = if c then wpR a Q E else wpR b Q E := by split <;> rfl
@[simp] theorem wpS_nx : wpS (.nx s h) P = P.nx s h := rfl
@[simp] theorem wpS_rt {d : D} : wpS (.rt d h) P = P.rt d h := rfl
@[simp] theorem wpS_no : wpS .no P = False := rfl
@[simp] theorem wpS_ite {c : Prop} [Decidable c] {a b : SR} : wpS (if c then a else b) P = if c then wpS a P else wpS b P := by split <;> rfl
@[simp] theorem wpS_bindS {r : Res α} {f : α → DH → SR} : wpS (bindS r s f) P = wpR r (fun a h => wpS (f a h) P) (fun x h => P.ex x s h) := by cases r <;> rfl
@[simp] theorem gEx_some {p : DS × DH} {k : DS → DH → Prop} : gEx (some p) k = k p.1 p.2 := rfl
@[simp] theorem gEx_none {k : DS → DH → Prop} : gEx none k = False := rfl
/-! ### statements -/
@[simp] theorem w_seq {a b : MS} : wpS (mSeq a b s h) P = wpS (a s h) { P with nx := fun s h => wpS (b s h) P } := by
  unfold mSeq
  cases a s h <;> rfl
@[simp] theorem w_next : wpS (mNext s h) P = P.nx s h := rfl
@[simp] theorem w_stNo : wpS (mStNo s h) P = False := rfl
@[simp] theorem w_asg {a : ME} {g : MG} : wpS (mAsg a g s h) P = wpR (a s h) (fun d h1 => gEx (g d s h1) P.nx) (fun x h => P.ex x s h) := by
  unfold mAsg
  rw [wpS_bindS]
  congr
  funext d h1
  cases g d s h1 <;> rfl
@[simp] theorem w_drop {a : ME} : wpS (mDrop a s h) P = wpR (a s h) (fun _ h1 => P.nx s h1) (fun x h => P.ex x s h) := by
  unfold mDrop
  rw [wpS_bindS]
  rfl
@[simp] theorem w_ret {a : ME} : wpS (mRet a s h) P = wpR (a s h) (fun d h1 => P.rt d h1) (fun x h => P.ex x s h) := by
  unfold mRet
  rw [wpS_bindS]
  rfl
@[simp] theorem w_retN : wpS (mRetN s h) P = P.rt .non h := rfl
@[simp] theorem w_brk : wpS (mBrk s h) P = P.bk s h := rfl
@[simp] theorem w_cnt : wpS (mCnt s h) P = P.ct s h := rfl
@[simp] theorem w_ifS {t : MT} {a b : MS} : wpS (mIfS t a b s h) P = wpR (t s h) (fun k h1 => if k = true then wpS (a s h1) P else wpS (b s h1) P) (fun x h => P.ex x s h) := by
  unfold mIfS
  rw [wpS_bindS]
  congr
  funext k h1
  cases k <;> rfl
@[simp] theorem w_aug {i : Nat} {f : D → D → DH → Res D} {a : ME} : wpS (mAug i f a s h) P = match s[i]? with
    | some (some x) => wpR (a s h) (fun y h1 => wpR (f x y h1) (fun z h2 => P.nx (s.set i (some z)) h2) (fun x h => P.ex x s h)) (fun x h => P.ex x s h)
    | _ => False := by
  unfold mAug
  cases s[i]? with
  | none => rfl
  | some o =>
    cases o with
    | none => rfl
    | some x =>
      dsimp only
      rw [wpS_bindS]
      congr
      funext y h1
      rw [wpS_bindS]
      rfl
@[simp] theorem w_par {ix : List Nat} {l : List ME} : wpS (mPar ix l s h) P = wpR (mArgs l s h) (fun ds h1 => if ds.length = ix.length then P.nx ((ix.zip ds).foldl (fun s p => s.set p.1 (some p.2)) s) h1 else False) (fun x h => P.ex x s h) := by
  unfold mPar
  rw [wpS_bindS]
  congr
  funext ds h1
  rw [wpS_ite]
  rfl
@[simp] theorem w_asg2 {a : ME} {g1 g2 : MG} : wpS (mAsg2 a g1 g2 s h) P = wpR (a s h) (fun d h1 => gEx (g1 d s h1) fun s1 h2 => gEx (g2 d s1 h2) P.nx) (fun x h => P.ex x s h) := by
  unfold mAsg2
  rw [wpS_bindS]
  congr
  funext d h1
  cases g1 d s h1 with
  | none => rfl
  | some p =>
    show wpS (match g2 d p.1 p.2 with | some (s2, h3) => SR.nx s2 h3 | none => .no) P = _
    cases e : g2 d p.1 p.2 with
    | none => simp [gEx, e]
    | some q => simp [gEx, e]
@[simp] theorem w_for {src : MI} {g : MG} {b : MS} : wpS (mFor src g b s h) P = wpR (src s h) (fun it h1 => wpS (forGo it g b fuel 0 s h1) P) (fun x h => P.ex x s h) := by
  unfold mFor
  rw [wpS_bindS]
@[simp] theorem w_while {t : MT} {b : MS} : wpS (mWhile t b s h) P = wpS (whGo t b fuel s h) P := rfl
/-! ### targets -/
@[simp] theorem g_nm {i : Nat} {d : D} : gNm i d s h = some (s.set i (some d), h) := rfl
@[simp] theorem g_tp {l : List MG} {ds : List D} : gTp l (.tup ds) s h = if ds.length = l.length then gsM l ds s h else none := rfl
@[simp] theorem g_nil : gsM [] [] s h = some (s, h) := rfl
@[simp] theorem g_cons {m : MG} {r : List MG} {d : D} {ds : List D} : gsM (m :: r) (d :: ds) s h = (m d s h).bind fun q => gsM r ds q.1 q.2 := rfl
@[simp] theorem gEx_bind {r : Option (DS × DH)} {f : DS × DH → Option (DS × DH)} {k : DS → DH → Prop} : gEx (r.bind f) k = gEx r fun s h => gEx (f (s, h)) k := by cases r <;> rfl
/-! ### values -/
variable {QD : D → DH → Prop} {QB : Bool → DH → Prop} {QA : List D → DH → Prop} {QO : Option Int → DH → Prop} {QI : IS → DH → Prop} {a b c : ME}
@[simp] theorem w_lit {d : D} : wpR (mLit d s h) QD E = QD d h := rfl
theorem wpR_match {o : Option (Option D)} {h : DH} : wpR (match o with | some (some d) => Res.ok d h | _ => .no) QD E = match o with | some (some d) => QD d h | _ => False := by
  split <;> rfl
@[simp] theorem w_var {i : Nat} : wpR (mVar i s h) QD E = match s[i]? with | some (some d) => QD d h | _ => False := wpR_match
@[simp] theorem w_bin {f : D → D → DH → Res D} : wpR (mBin f a b s h) QD E = wpR (a s h) (fun x h1 => wpR (b s h1) (fun y h2 => wpR (f x y h2) QD E) E) E := by
  unfold mBin
  simp only [wpR_bind]
@[simp] theorem w_neg : wpR (mNeg a s h) QD E = wpR (a s h) (fun x h1 => match x with | .int i => QD (.int (-i)) h1 | _ => False) E := by
  unfold mNeg
  rw [wpR_bind]
  congr
  funext x h1
  cases x <;> rfl
@[simp] theorem w_asB {r : Res D} : wpR (asB r) QB E = wpR r (fun x h1 => match x with | .bl k => QB k h1 | _ => False) E := by
  unfold asB
  rw [wpR_bind]
  congr
  funext x h1
  cases x <;> rfl
@[simp] theorem w_notE : wpR (mNotE a s h) QD E = wpR (a s h) (fun x h1 => match x with | .bl k => QD (.bl (!k)) h1 | _ => False) E := by
  unfold mNotE
  simp only [wpR_bind, w_asB, wpR_ok]
@[simp] theorem w_andE0 : wpR (mAndE [a] s h) QD E = wpR (a s h) QD E := rfl
@[simp] theorem w_andE {m : ME} {r : List ME} : wpR (mAndE (a :: m :: r) s h) QD E = wpR (a s h) (fun x h1 => match x with | .bl k => if k = true then wpR (mAndE (m :: r) s h1) QD E else QD (.bl false) h1 | _ => False) E := by
  show wpR ((asB (a s h)).bind fun b h1 => if b then mAndE (m :: r) s h1 else .ok (.bl false) h1) QD E = _
  simp only [wpR_bind, w_asB, wpR_ite, wpR_ok]
@[simp] theorem w_orE0 : wpR (mOrE [a] s h) QD E = wpR (a s h) QD E := rfl
@[simp] theorem w_orE {m : ME} {r : List ME} : wpR (mOrE (a :: m :: r) s h) QD E = wpR (a s h) (fun x h1 => match x with | .bl k => if k = true then QD (.bl true) h1 else wpR (mOrE (m :: r) s h1) QD E | _ => False) E := by
  show wpR ((asB (a s h)).bind fun b h1 => if b then .ok (.bl true) h1 else mOrE (m :: r) s h1) QD E = _
  simp only [wpR_bind, w_asB, wpR_ite, wpR_ok]
variable {t u : MT}
@[simp] theorem w_andT0 : wpR (mAndT [t] s h) QB E = wpR (t s h) QB E := rfl
@[simp] theorem w_andT {r : List MT} : wpR (mAndT (t :: u :: r) s h) QB E = wpR (t s h) (fun k h1 => if k = true then wpR (mAndT (u :: r) s h1) QB E else QB false h1) E := by
  show wpR ((t s h).bind fun b h1 => if b then mAndT (u :: r) s h1 else .ok false h1) QB E = _
  simp only [wpR_bind, wpR_ite, wpR_ok]
@[simp] theorem w_orT0 : wpR (mOrT [t] s h) QB E = wpR (t s h) QB E := rfl
@[simp] theorem w_orT {r : List MT} : wpR (mOrT (t :: u :: r) s h) QB E = wpR (t s h) (fun k h1 => if k = true then QB true h1 else wpR (mOrT (u :: r) s h1) QB E) E := by
  show wpR ((t s h).bind fun b h1 => if b then .ok true h1 else mOrT (u :: r) s h1) QB E = _
  simp only [wpR_bind, wpR_ite, wpR_ok]
@[simp] theorem w_notT : wpR (mNotT t s h) QB E = wpR (t s h) (fun k h1 => QB (!k) h1) E := by
  unfold mNotT
  simp only [wpR_bind, wpR_ok]
@[simp] theorem w_mB : wpR (mB a s h) QB E = wpR (a s h) (fun x h1 => match x with | .bl k => QB k h1 | _ => False) E := w_asB
@[simp] theorem w_mTru : wpR (mTru a s h) QB E = wpR (a s h) (fun x h1 => match truOf x h1 with | some k => QB k h1 | none => False) E := by
  unfold mTru
  rw [wpR_bind]
  congr
  funext x h1
  cases truOf x h1 <;> rfl
@[simp] theorem w_chain {f g : D → D → DH → Res D} : wpR (mChain f g a b c s h) QD E = wpR (a s h) (fun x h1 => wpR (b s h1) (fun y h2 => wpR (f x y h2) (fun k h3 => match k with
    | .bl k => if k = true then wpR (c s h3) (fun z h4 => wpR (g y z h4) QD E) E else QD (.bl false) h3
    | _ => False) E) E) E := by
  unfold mChain
  simp only [wpR_bind, w_asB, wpR_ite, wpR_ok]
@[simp] theorem w_if : wpR (mIf t a b s h) QD E = wpR (t s h) (fun k h1 => if k = true then wpR (a s h1) QD E else wpR (b s h1) QD E) E := by
  unfold mIf
  simp only [wpR_bind, wpR_ite]
@[simp] theorem w_args0 : wpR (mArgs [] s h) QA E = QA [] h := rfl
@[simp] theorem w_args {r : List ME} : wpR (mArgs (a :: r) s h) QA E = wpR (a s h) (fun x h1 => wpR (mArgs r s h1) (fun xs h2 => QA (x :: xs) h2) E) E := by
  show wpR ((a s h).bind fun x h1 => (mArgs r s h1).bind fun xs h2 => .ok (x :: xs) h2) QA E = _
  simp only [wpR_bind, wpR_ok]
@[simp] theorem w_tup {l : List ME} : wpR (mTup l s h) QD E = wpR (mArgs l s h) (fun xs h1 => if xs.length ≤ 16777216 then QD (.tup xs) h1 else False) E := by
  unfold mTup
  simp only [wpR_bind, wpR_ite, wpR_ok, wpR_no]
@[simp] theorem w_lst {l : List ME} : wpR (mLst l s h) QD E = wpR (mArgs l s h) (fun xs h1 => if xs.length ≤ 16777216 then QD (.ref h1.length) (h1 ++ [.lst xs]) else False) E := by
  unfold mLst
  simp only [wpR_bind, wpR_ite, wpR_ok, wpR_no]
@[simp] theorem w_part : wpR (mPart a s h) QO E = wpR (a s h) (fun x h1 => match x with | .int i => QO (some i) h1 | _ => False) E := by
  unfold mPart
  rw [wpR_bind]
  congr
  funext x h1
  cases x <;> rfl
@[simp] theorem w_oNone : wpR (oNone s h) QO E = QO none h := rfl
@[simp] theorem w_sl {lo hi : MO} : wpR (mSl a lo hi s h) QD E = wpR (a s h) (fun x h1 => wpR (lo s h1) (fun l h2 => wpR (hi s h2) (fun u h3 => wpR (opSl x l u h3) QD E) E) E) E := by
  unfold mSl
  simp only [wpR_bind]
@[simp] theorem w_blt {k : Blt} {l : List ME} : wpR (mBlt k l s h) QD E = wpR (mArgs l s h) (fun xs h1 => wpR (bltF k xs h1) QD E) E := by
  unfold mBlt
  simp only [wpR_bind]
@[simp] theorem w_meth {nm : Str} {l : List ME} : wpR (mMeth nm a l s h) QD E = wpR (a s h) (fun x h1 => match mthOf nm x h1 with
    | some m => wpR (mArgs l s h1) (fun xs h2 => wpR (mthF m x xs h2) QD E) E
    | none => False) E := by
  unfold mMeth
  rw [wpR_bind]
  congr
  funext x h1
  cases mthOf nm x h1 with
  | none => rfl
  | some m => simp only [wpR_bind]
@[simp] theorem w_call {F : List D → DH → Res D} {np n m : Nat} {pm : List Nat} {l lk : List ME} : wpR (mCallK F np n m pm l lk s h) QD E = wpR (mArgs l s h) (fun xs h1 => wpR (mArgs lk s h1) (fun zs h2 => if xs.length = n ∧ zs.length = m then (match pickL pm (xs ++ zs) with
    | some ys => if ys.length = np then wpR (F ys h2) QD E else False
    | none => False) else False) E) E := by
  unfold mCallK
  simp only [wpR_bind, wpR_ite, wpR_no]
  congr
  funext xs h1
  congr
  funext zs h2
  split
  · cases pickL pm (xs ++ zs) with
    | none => rfl
    | some ys => simp
  · rfl
@[simp] theorem w_lstRg {l : List ME} : wpR (mLstRg l s h) QD E = wpR (mArgs l s h) (fun xs h1 => match rgArg xs with
    | some p => if rgOk p.1 p.2 = true then QD (.ref h1.length) (h1 ++ [.lst (rgD p.1 p.2)]) else False
    | none => False) E := by
  unfold mLstRg
  rw [wpR_bind]
  congr
  funext xs h1
  cases rgArg xs with
  | none => rfl
  | some p => simp
@[simp] theorem w_tupRg {l : List ME} : wpR (mTupRg l s h) QD E = wpR (mArgs l s h) (fun xs h1 => match rgArg xs with
    | some p => if rgOk p.1 p.2 = true then QD (.tup (rgD p.1 p.2)) h1 else False
    | none => False) E := by
  unfold mTupRg
  rw [wpR_bind]
  congr
  funext xs h1
  cases rgArg xs with
  | none => rfl
  | some p => simp
@[simp] theorem w_retI {o : Option IS} : wpR (retI o h) QI E = match o with | some i => QI i h | none => False := by cases o <;> rfl
@[simp] theorem w_retD {o : Option D} : wpR (retD o h) QD E = match o with | some i => QD i h | none => False := by cases o <;> rfl
@[simp] theorem w_retB {o : Option Bool} : wpR (retB o h) QD E = match o with | some i => QD (.bl i) h | none => False := by cases o <;> rfl
@[simp] theorem w_plain : wpR (iPlain a s h) QI E = wpR (a s h) (fun x h1 => match srcOf x h1 with | some i => QI i h1 | none => False) E := by
  unfold iPlain
  simp only [wpR_bind, w_retI]
@[simp] theorem w_range {f : List D → Option IS} {l : List ME} : wpR (iRange f l s h) QI E = wpR (mArgs l s h) (fun xs h1 => match f xs with | some i => QI i h1 | none => False) E := by
  unfold iRange
  simp only [wpR_bind, w_retI]
@[simp] theorem w_enum : wpR (iEnumM a s h) QI E = wpR (a s h) (fun x h1 => match enumOf h1 x with | some i => QI i h1 | none => False) E := by
  unfold iEnumM
  simp only [wpR_bind, w_retI]
@[simp] theorem w_zip : wpR (iZipM a b s h) QI E = wpR (a s h) (fun x h1 => wpR (b s h1) (fun y h2 => match zipOf h2 x y with | some i => QI i h2 | none => False) E) E := by
  unfold iZipM
  simp only [wpR_bind, w_retI]
@[simp] theorem w_revM : wpR (iRevM a s h) QI E = wpR (a s h) (fun x h1 => match revOf h1 x with | some i => QI i h1 | none => False) E := by
  unfold iRevM
  simp only [wpR_bind, w_retI]
@[simp] theorem w_lc {src : MI} {g : MG} {e : ME} {vs : List Nat} : wpR (mLc src g t e vs s h) QD E = wpR (src s h) (fun it h1 => wpR (lcGo it g t e (wipeD s vs) fuel 0 [] h1) (fun xs h2 => QD (.ref h2.length) (h2 ++ [.lst xs])) E) E := by
  unfold mLc
  simp only [wpR_bind, wpR_ok]
@[simp] theorem w_tYes : wpR (tYesM s h) QB E = QB true h := rfl
/-! ### defs -/
@[simp] theorem w_run {m : MS} {n : Nat} {ds : List D} : wpR (runB m n ds h) QD E = wpS (m (ds.map some ++ List.replicate (n - ds.length) none) h) { nx := fun _ h => QD .non h, rt := QD, bk := fun _ _ => False, ct := fun _ _ => False, ex := fun x _ h => E x h } := by
  unfold runB
  cases m (ds.map some ++ List.replicate (n - ds.length) none) h <;> rfl
end
theorem fs_step {G : List (Str × GV)} {B : List Str} {T : List DefI} {n i : Nat} {d : DefI} {b : MS} {ds : List D} {h : DH} (hT : T[i]? = some d) (hl : ds.length = d.ps.length) (e : bodyM G B (Fs G B T n) d = b) : Fs G B T (n + 1) i ds h = runB b d.N.length ds h := by
  show (match T[i]? with | some d => if ds.length = d.ps.length then runB (bodyM G B (Fs G B T n) d) d.N.length ds h else .no | none => .no) = _
  rw [hT]
  dsimp only
  rw [if_pos hl, e]

@[simp] theorem pick_nil {α : Type} {xs : List α} : pickL [] xs = some [] := rfl
@[simp] theorem pick_cons {α : Type} {j : Nat} {r : List Nat} {xs : List α} : pickL (j :: r) xs = xs[j]?.bind fun x => (pickL r xs).map fun ys => x :: ys := rfl
@[simp] theorem wipe_nil {s : DS} : wipeD s [] = s := rfl
@[simp] theorem wipe_cons {s : DS} {v : Nat} {r : List Nat} : wipeD s (v :: r) = (wipeD s r).set v none := rfl
@[simp] theorem rg_one {j : Int} : rgArg [.int j] = some (0, j) := rfl
@[simp] theorem rg_two {i j : Int} : rgArg [.int i, .int j] = some (i, j) := rfl
@[simp] theorem rn_one {j : Int} : rngOf1 [.int j] = if smallI j then some (isRng 0 1 j.toNat) else none := rfl
@[simp] theorem rn_two {i j : Int} : rngOf2 [.int i, .int j] = if smallI i && smallI j then some (isRng i 1 (j - i).toNat) else none := rfl

/-! ### loops -/
section
variable {src : IS} {g : MG} {b : MS} {P : Pst}
theorem for_gen {n : Nat} (It : Nat → DH → D → Prop) (Inv : Nat → DS → DH → Prop) (item : ∀ i s h, i < n → Inv i s h → ∃ d, itemAt src i h = some (some d) ∧ It i h d) (stop : ∀ s h, Inv n s h → itemAt src n h = some none) 
    (hs : ∀ i d s h, i < n → Inv i s h → It i h d → gEx (g d s h) fun s1 h1 => wpS (b s1 h1) { P with nx := Inv (i + 1), ct := Inv (i + 1), bk := P.nx }) (hd : ∀ s h, Inv n s h → P.nx s h) :
    ∀ (m i : Nat) (s : DS) (h : DH), n < m + i → i ≤ n → Inv i s h → wpS (forGo src g b m i s h) P
  | 0, i, s, h, h1, h2, _ => by omega
  | m + 1, i, s, h, h1, h2, inv => by
    unfold forGo
    by_cases hi : i < n
    · obtain ⟨d, e1, e2⟩ := item i s h hi inv
      rw [e1]
      dsimp only
      have q := hs i d s h hi inv e2
      cases eg : g d s h with
      | none => rw [eg] at q; exact q.elim
      | some p =>
        rw [eg] at q
        dsimp only
        have q : wpS (b p.1 p.2) { P with nx := Inv (i + 1), ct := Inv (i + 1), bk := P.nx } := q
        cases eb : b p.1 p.2 with
        | nx s2 h2 => rw [eb] at q; exact for_gen It Inv item stop hs hd m (i + 1) s2 h2 (by omega) (by omega) q
        | ct s2 h2 => rw [eb] at q; exact for_gen It Inv item stop hs hd m (i + 1) s2 h2 (by omega) (by omega) q
        | bk s2 h2 => rw [eb] at q; exact q
        | rt d h2 => rw [eb] at q; exact q
        | ex x s2 h2 => rw [eb] at q; exact q
        | no => rw [eb] at q; exact q.elim
    · have e : i = n := by omega
      subst e
      rw [stop s h inv]
      exact hd s h inv
/-- over told items -/
theorem for_fix {n : Nat} {f : Nat → D} (Inv : Nat → DS → DH → Prop) {s : DS} {h : DH} (h0 : Inv 0 s h) (hn : n < 1000000)
    (hs : ∀ i s h, i < n → Inv i s h → gEx (g (f i) s h) fun s1 h1 => wpS (b s1 h1) { P with nx := Inv (i + 1), ct := Inv (i + 1), bk := P.nx }) (hd : ∀ s h, Inv n s h → P.nx s h) : wpS (forGo (.fix n f) g b fuel 0 s h) P :=
  for_gen (n := n) (fun i _ d => d = f i) Inv (fun i s h hi _ => ⟨f i, by simp [itemAt, hi], rfl⟩) (fun s h _ => by simp [itemAt]) (fun i d s h hi inv e => by subst e; exact hs i s h hi inv) hd fuel 0 s h (by rw [fuel_eq]; omega) (Nat.zero_le _) h0
theorem for_seq {ds : List D} (Inv : Nat → DS → DH → Prop) {s : DS} {h : DH} (h0 : Inv 0 s h) (hn : ds.length < 1000000)
    (hs : ∀ i d s h, ds[i]? = some d → Inv i s h → gEx (g d s h) fun s1 h1 => wpS (b s1 h1) { P with nx := Inv (i + 1), ct := Inv (i + 1), bk := P.nx }) (hd : ∀ s h, Inv ds.length s h → P.nx s h) : wpS (forGo (isSeq ds) g b fuel 0 s h) P :=
  for_fix Inv h0 hn (fun i s h hi inv => hs i _ s h (by rw [List.getD_eq_getElem?_getD, List.getElem?_eq_getElem hi]; rfl) inv) hd
/-- over a list as it stands: every state of the loop tells its items -/
theorem for_lst {k : Nat} {xs : List D} (Inv : Nat → DS → DH → Prop) {s : DS} {h : DH} (h0 : Inv 0 s h) (hn : xs.length < 1000000) (hl : ∀ i s h, i ≤ xs.length → Inv i s h → h[k]? = some (.lst xs))
    (hs : ∀ i d s h, xs[i]? = some d → Inv i s h → gEx (g d s h) fun s1 h1 => wpS (b s1 h1) { P with nx := Inv (i + 1), ct := Inv (i + 1), bk := P.nx }) (hd : ∀ s h, Inv xs.length s h → P.nx s h) : wpS (forGo (.lst k) g b fuel 0 s h) P :=
  for_gen (n := xs.length) (fun i _ d => xs[i]? = some d) Inv (fun i s h hi inv => ⟨xs[i], by simp [itemAt, lstAt, hl i s h (by omega) inv, hi], by simp [hi]⟩) (fun s h inv => by simp [itemAt, lstAt, hl _ s h (Nat.le_refl _) inv]) (fun i d s h hi inv e => hs i d s h e inv) hd fuel 0 s h (by rw [fuel_eq]; omega) (Nat.zero_le _) h0
variable {t : MT} {e : ME} {s0 : DS} {QA : List D → DH → Prop} {E : Exn → DH → Prop}
theorem lc_gen {n : Nat} (It : Nat → DH → D → Prop) (Inv : Nat → List D → DH → Prop) (item : ∀ i a h, i < n → Inv i a h → ∃ d, itemAt src i h = some (some d) ∧ It i h d) (stop : ∀ a h, Inv n a h → itemAt src n h = some none)
    (hs : ∀ i d a h, i < n → Inv i a h → It i h d → gEx (g d s0 h) fun s1 h1 => wpR (t s1 h1) (fun k h2 => if k = true then wpR (e s1 h2) (fun y h3 => a.length < 16777216 ∧ Inv (i + 1) (a ++ [y]) h3) (fun _ _ => False) else Inv (i + 1) a h2) fun _ _ => False)
    (hd : ∀ a h, Inv n a h → QA a h) : ∀ (m i : Nat) (a : List D) (h : DH), n < m + i → i ≤ n → Inv i a h → wpR (lcGo src g t e s0 m i a h) QA E
  | 0, i, a, h, h1, h2, _ => by omega
  | m + 1, i, a, h, h1, h2, inv => by
    unfold lcGo
    by_cases hi : i < n
    · obtain ⟨d, e1, e2⟩ := item i a h hi inv
      rw [e1]
      dsimp only
      have q := hs i d a h hi inv e2
      cases eg : g d s0 h with
      | none => rw [eg] at q; exact q.elim
      | some p =>
        rw [eg] at q
        dsimp only
        have q : wpR (t p.1 p.2) (fun k h2 => if k = true then wpR (e p.1 h2) (fun y h3 => a.length < 16777216 ∧ Inv (i + 1) (a ++ [y]) h3) (fun _ _ => False) else Inv (i + 1) a h2) (fun _ _ => False) := q
        obtain ⟨k, h2', et, q⟩ := wpR_ex q
        rw [et]
        cases k with
        | true =>
          rw [if_pos rfl] at q
          obtain ⟨y, h3, ee, q⟩ := wpR_ex q
          dsimp only
          rw [ee]
          dsimp only
          rw [if_pos q.1]
          exact lc_gen It Inv item stop hs hd m (i + 1) _ h3 (by omega) (by omega) q.2
        | false =>
          rw [if_neg Bool.false_ne_true] at q
          exact lc_gen It Inv item stop hs hd m (i + 1) a h2' (by omega) (by omega) q
    · have e : i = n := by omega
      subst e
      rw [stop a h inv]
      exact hd a h inv
theorem lc_fix {n : Nat} {f : Nat → D} (Inv : Nat → List D → DH → Prop) {h : DH} (h0 : Inv 0 [] h) (hn : n < 1000000)
    (hs : ∀ i a h, i < n → Inv i a h → gEx (g (f i) s0 h) fun s1 h1 => wpR (t s1 h1) (fun k h2 => if k = true then wpR (e s1 h2) (fun y h3 => a.length < 16777216 ∧ Inv (i + 1) (a ++ [y]) h3) (fun _ _ => False) else Inv (i + 1) a h2) fun _ _ => False)
    (hd : ∀ a h, Inv n a h → QA a h) : wpR (lcGo (.fix n f) g t e s0 fuel 0 [] h) QA E :=
  lc_gen (n := n) (fun i _ d => d = f i) Inv (fun i s h hi _ => ⟨f i, by simp [itemAt, hi], rfl⟩) (fun s h _ => by simp [itemAt]) (fun i d a h hi inv e => by subst e; exact hs i a h hi inv) hd fuel 0 [] h (by rw [fuel_eq]; omega) (Nat.zero_le _) h0
/-- a comprehension over items that are known: filter p, then map v; J is kept of the heap -/
theorem lc_seq {ds : List D} (J : DH → Prop) (p : D → Bool) (v : D → D) {h : DH} (h0 : J h) (hn : ds.length < 1000000)
    (hs : ∀ d h, d ∈ ds → J h → gEx (g d s0 h) fun s1 h1 => wpR (t s1 h1) (fun k h2 => k = p d ∧ (if k = true then wpR (e s1 h2) (fun y h3 => y = v d ∧ J h3) (fun _ _ => False) else J h2)) fun _ _ => False)
    (hd : ∀ h, J h → QA ((ds.filter p).map v) h) : wpR (lcGo (isSeq ds) g t e s0 fuel 0 [] h) QA E := by
  refine lc_fix (fun i a h => a = ((ds.take i).filter p).map v ∧ J h) ⟨by simp, h0⟩ hn (fun i a h hi inv => ?_) fun a h inv => ?_
  · obtain ⟨rfl, j⟩ := inv
    have eq : ds.getD i .non = ds[i] := by rw [List.getD_eq_getElem?_getD, List.getElem?_eq_getElem hi]; rfl
    have tk : ds.take (i + 1) = ds.take i ++ [ds[i]] := by rw [List.take_add_one, List.getElem?_eq_getElem hi]; rfl
    have q := hs ds[i] h (List.getElem_mem hi) j
    rw [eq]
    cases eg : g ds[i] s0 h with
    | none => rw [eg] at q; exact q.elim
    | some r =>
      rw [eg] at q
      refine wpR_mono q fun k h2 z => ?_
      obtain ⟨rfl, z⟩ := z
      split
      · rename_i hp
        rw [if_pos hp] at z
        refine wpR_mono z fun y h3 z => ?_
        obtain ⟨rfl, z⟩ := z
        refine ⟨?_, ?_, z⟩
        · have a1 := List.length_filter_le p (ds.take i)
          have a2 := List.length_take_le i ds
          rw [List.length_map]
          have := List.length_take (i := i) (l := ds)
          omega
        · rw [tk, List.filter_append, List.filter_cons_of_pos hp, List.map_append]
          rfl
      · rename_i hp
        rw [if_neg hp] at z
        refine ⟨?_, z⟩
        rw [tk, List.filter_append, List.filter_cons_of_neg hp]
        simp
  · obtain ⟨rfl, j⟩ := inv
    rw [List.take_length]
    exact hd h j
end
end
end PyI
-- PyY
/-! PyY: the operators at known values; the helper defs of the laws -/
namespace PyI
noncomputable section
open PySem PySem.Spec L2
section
variable {s : DS} {h : DH} {E : Exn → DH → Prop}
@[simp] theorem g_sub {a b : ME} {d : D} {k : DS → DH → Prop} : gEx (gSubM a b d s h) k = wpR (a s h) (fun o h1 => wpR (b s h1) (fun i h2 => match setIx h2 o i d with | some h3 => k s h3 | none => False) fun _ _ => False) fun _ _ => False := by
  unfold gSubM
  cases a s h with
  | no => rfl
  | exc x h => rfl
  | ok o h1 =>
    show gEx ((okOf (b s h1)).bind fun q => (setIx q.2 o q.1 d).map fun h3 => (s, h3)) k = wpR (b s h1) (fun i h2 => match setIx h2 o i d with | some h3 => k s h3 | none => False) fun _ _ => False
    cases b s h1 with
    | no => rfl
    | exc x h => rfl
    | ok i h2 =>
      show gEx ((setIx h2 o i d).map fun h3 => (s, h3)) k = match setIx h2 o i d with | some h3 => k s h3 | none => False
      cases setIx h2 o i d <;> rfl
@[simp] theorem o_add {i j : Int} : opB .Add (.int i) (.int j) h = .ok (.int (i + j)) h := rfl
@[simp] theorem o_sub {i j : Int} : opB .Sub (.int i) (.int j) h = .ok (.int (i - j)) h := rfl
@[simp] theorem o_mul {i j : Int} : opB .Mult (.int i) (.int j) h = if mulOk i j then .ok (.int (i * j)) h else .no := rfl
@[simp] theorem o_mod {i j : Int} : opB .Mod (.int i) (.int j) h = if 0 < j then .ok (.int (i % j)) h else .no := rfl
@[simp] theorem o_div {i j : Int} : opB .FloorDiv (.int i) (.int j) h = if 0 < j ∧ j.natAbs.log2 < 9000 then .ok (.int (i / j)) h else .no := rfl
@[simp] theorem o_pow {i j : Int} : opB .Pow (.int i) (.int j) h = if powOk i j then .ok (.int (i ^ j.toNat)) h else .no := rfl
@[simp] theorem o_cat {a b : List D} : opB .Add (.tup a) (.tup b) h = if a.length + b.length ≤ 16777216 then .ok (.tup (a ++ b)) h else .no := rfl
@[simp] theorem o_catL {m n : Nat} : opB .Add (.ref m) (.ref n) h = match h[m]?, h[n]? with
    | some (.lst a), some (.lst b) => if a.length + b.length ≤ 16777216 then .ok (.ref h.length) (h ++ [.lst (a ++ b)]) else .no
    | _, _ => .no := rfl
@[simp] theorem c_lt {i j : Int} : opC .Lt (.int i) (.int j) h = .ok (.bl (decide (i < j))) h := rfl
@[simp] theorem c_le {i j : Int} : opC .LtE (.int i) (.int j) h = .ok (.bl (decide (i ≤ j))) h := rfl
@[simp] theorem c_gt {i j : Int} : opC .Gt (.int i) (.int j) h = .ok (.bl (decide (j < i))) h := rfl
@[simp] theorem c_ge {i j : Int} : opC .GtE (.int i) (.int j) h = .ok (.bl (decide (j ≤ i))) h := rfl
@[simp] theorem c_eq {i j : Int} : opC .Eq (.int i) (.int j) h = .ok (.bl (decide (i = j))) h := rfl
@[simp] theorem c_ne {i j : Int} : opC .NotEq (.int i) (.int j) h = .ok (.bl (!decide (i = j))) h := rfl
@[simp] theorem c_eqS {i j : Str} : opC .Eq (.str i) (.str j) h = .ok (.bl (decide (i = j))) h := rfl
@[simp] theorem c_neS {i j : Str} : opC .NotEq (.str i) (.str j) h = .ok (.bl (!decide (i = j))) h := rfl
@[simp] theorem b_divmod {i j : Int} : bltF .divmod [.int i, .int j] h = if 0 < j ∧ j < hid 1073741824 then .ok (.tup [.int (i / j), .int (i % j)]) h else .no := rfl
@[simp] theorem b_abs {i : Int} : bltF .abs [.int i] h = .ok (.int (if i < 0 then -i else i)) h := rfl
@[simp] theorem b_max {i j : Int} : bltF .max [.int i, .int j] h = .ok (.int (if j > i then j else i)) h := rfl
@[simp] theorem b_min {i j : Int} : bltF .min [.int i, .int j] h = .ok (.int (if j < i then j else i)) h := rfl
@[simp] theorem b_lenT {xs : List D} : bltF .len [.tup xs] h = .ok (.int xs.length) h := rfl
@[simp] theorem b_lenS {xs : List Int} : bltF .len [.scr xs] h = .ok (.int xs.length) h := by
  show retD (some (.int ((xs.map D.int).length : Nat))) h = _
  rw [List.length_map]
  rfl
@[simp] theorem b_lenR {n : Nat} : bltF .len [.ref n] h = match h[n]? with | some (.lst xs) => .ok (.int xs.length) h | _ => .no := by
  show retD ((match h[n]? with | some (.lst xs) => some xs | _ => (none : Option (List D))).map fun (l : List D) => D.int (l.length : Nat)) h = _
  generalize h[n]? = o
  cases o with
  | none => rfl
  | some o => cases o <;> rfl
@[simp] theorem b_isinst {x : D} {n : String} : bltF .isinst [x, .ty n] h = retD ((isi h x n).map .bl) h := rfl
@[simp] theorem b_tupR {n : Nat} : bltF .tuple [.ref n] h = match h[n]? with | some (.lst xs) => .ok (.tup xs) h | _ => .no := by
  show retD ((match h[n]? with | some (.lst xs) => some xs | _ => (none : Option (List D))).map D.tup) h = _
  generalize h[n]? = o
  cases o with
  | none => rfl
  | some o => cases o <;> rfl
@[simp] theorem b_listT {xs : List D} : bltF .list [.tup xs] h = .ok (.ref h.length) (h ++ [.lst xs]) := rfl
@[simp] theorem x_T {xs : List D} {i : Int} : opI (.tup xs) (.int i) h = retD (atI xs i) h := rfl
@[simp] theorem x_S {xs : List Int} {i : Int} : opI (.scr xs) (.int i) h = retD (atI (xs.map D.int) i) h := rfl
@[simp] theorem x_R {n : Nat} {i : Int} : opI (.ref n) (.int i) h = retD (match h[n]? with | some (.lst xs) => atI xs i | _ => none) h := by
  show retD ((match h[n]? with | some (.lst xs) => some xs | _ => (none : Option (List D))).bind fun (l : List D) => atI l i) h = _
  generalize h[n]? = o
  cases o with
  | none => rfl
  | some o => cases o <;> rfl
@[simp] theorem t_bl {k : Bool} : truOf (.bl k) h = some k := rfl
@[simp] theorem t_int {i : Int} : truOf (.int i) h = some (i != 0) := rfl
end

/-! ### the pool and the draw -/
/-- a list of three ints: the state (below the prime), the digits, the counter -/
structure Pool (h : DH) (n : Nat) : Prop where
  ex : ∃ a b c : Int, h[n]? = some (.lst [.int a, .int b, .int c]) ∧ 0 ≤ a ∧ a < 2147483399 ∧ 0 ≤ b
/-- what stands but at n stands; new things may come -/
structure Fr (n : Nat) (h h' : DH) : Prop where
  le : h.length ≤ h'.length
  old : ∀ j o, j ≠ n → h[j]? = some o → h'[j]? = some o
theorem Fr.refl {n : Nat} {h : DH} : Fr n h h := ⟨Nat.le_refl _, fun _ _ _ e => e⟩
theorem Fr.trans {n : Nat} {h h1 h2 : DH} (a : Fr n h h1) (b : Fr n h1 h2) : Fr n h h2 := ⟨Nat.le_trans a.le b.le, fun j o hj e => b.old j o hj (a.old j o hj e)⟩
theorem Fr.set {n : Nat} {h : DH} {o : O} : Fr n h (h.set n o) := ⟨by simp, fun j u hj e => by rw [List.getElem?_set_ne (Ne.symm hj)]; exact e⟩
theorem Fr.app {n : Nat} {h l : DH} : Fr n h (h ++ l) := ⟨by simp, fun j u hj e => by rw [List.getElem?_append_left (List.getElem?_eq_some_iff.mp e).1]; exact e⟩
theorem Pool.fr {n m : Nat} {h h' : DH} (p : Pool h n) (f : Fr m h h') (hm : n ≠ m) : Pool h' n := let ⟨a, b, c, e, r⟩ := p.ex; ⟨a, b, c, f.old n _ hm e, r⟩
theorem Pool.app {n : Nat} {h l : DH} (p : Pool h n) : Pool (h ++ l) n := let ⟨a, b, c, e, r⟩ := p.ex; ⟨a, b, c, by rw [List.getElem?_append_left (List.getElem?_eq_some_iff.mp e).1]; exact e, r⟩
theorem at0 {x y z : D} : atI [x, y, z] 0 = some x := rfl
theorem at1 {x y z : D} : atI [x, y, z] 1 = some y := rfl
theorem at2 {x y z : D} : atI [x, y, z] 2 = some z := rfl
theorem ix0 : ixN 3 0 = some 0 := rfl
theorem ix1 : ixN 3 1 = some 1 := rfl
theorem ix2 : ixN 3 2 = some 2 := rfl
theorem mulA {a : Int} (b : Int) (h0 : 0 ≤ a) (h1 : a < 2147483399) : mulOk a b = true := by
  unfold mulOk
  rw [hid_eq]
  simp only [Bool.or_eq_true, Bool.and_eq_true, decide_eq_true_eq]
  left; left; omega
theorem mulL {a : Int} (b : Int) (h0 : -18446744073709551616 < a) (h1 : a < 18446744073709551616) : mulOk a b = true := by
  unfold mulOk
  rw [hid_eq]
  simp only [Bool.or_eq_true, Bool.and_eq_true, decide_eq_true_eq]
  left; left; omega

/-! ### the helper defs -/
def h_draw : MS := (mSeq (mAsg (mBin (opB .Add) (mBin opI (mVar 0) (mLit (.int 2))) (mLit (.int 1))) (gSubM (mVar 0) (mLit (.int 2)))) (mSeq (mAsg (mBin opI (mVar 0) (mLit (.int 0))) (gNm 2)) (mSeq (mAsg (mBin (opB .Mod) (mBin (opB .Add) (mBin (opB .Mult) (mVar 2) (mBin (opB .Add) (mBin (opB .Mod) (mVar 2) (mLit (.int 40961))) (mLit (.int 30029)))) (mBin (opB .Mult) (mLit (.int 70003)) (mBin opI (mVar 0) (mLit (.int 2))))) (mLit (.int 2147483399))) (gSubM (mVar 0) (mLit (.int 0)))) (mSeq (mIfS (mB (mBin (opC .Gt) (mBin opI (mVar 0) (mLit (.int 1))) (mLit (.int 0)))) (mSeq (mAsg (mBlt .divmod [mBin opI (mVar 0) (mLit (.int 1)), mVar 1]) (gTp [gSubM (mVar 0) (mLit (.int 1)), gNm 3])) (mSeq (mRet (mVar 3)) mNext)) mNext) (mSeq (mRet (mBin (opB .Mod) (mBin (opB .FloorDiv) (mBin opI (mVar 0) (mLit (.int 0))) (mLit (.int 64))) (mVar 1))) mNext)))))
def h_cell : MS := (mSeq (mIfS (mB (mBin (opC .Lt) (mVar 1) (mBlt .len [mVar 0]))) (mSeq (mRet (mBin opI (mVar 0) (mVar 1))) mNext) mNext) (mSeq (mAsg (mBin (opB .Mod) (mBin (opB .Mult) (mLit (.int 70003)) (mBin (opB .Add) (mBin (opB .Add) (mBin (opB .Mult) (mVar 1) (mVar 1)) (mBin (opB .Mult) (mLit (.int 11)) (mVar 1))) (mLit (.int 7)))) (mLit (.int 2147483399))) (gNm 2)) (mSeq (mFor (iPlain (mSl (mVar 0) oNone (mPart (mLit (.int 3))))) (gNm 3) (mSeq (mAsg (mBin (opB .Mod) (mBin (opB .Add) (mBin (opB .Mult) (mVar 2) (mLit (.int 39119))) (mVar 3)) (mLit (.int 2147483399))) (gNm 2)) mNext)) (mSeq (mRet (mVar 2)) mNext))))
def h_pool : MS := (mSeq (mAsg (mIf (mOrT [mB (mBin (opC .Lt) (mVar 0) (mLit (.int 0))), mB (mBin (opC .GtE) (mVar 0) (mBin (opB .Pow) (mLit (.int 10)) (mLit (.int 18))))]) (mBlt .abs [mVar 0]) (mLit (.int 0))) (gNm 1)) (mSeq (mRet (mLst [mBin (opB .Mod) (mVar 0) (mLit (.int 2147483399)), mVar 1, mLit (.int 0)])) mNext))
def h_heights (D1 : List D → DH → Res D) : MS := (mSeq (mAsg (mCallK D1 2 2 0 [0, 1] [mVar 0, mLit (.int 4)] []) (gNm 2)) (mSeq (mIfS (mB (mBin (opC .Eq) (mVar 2) (mLit (.int 0)))) (mSeq (mRet (mLstRg [mLit (.int 1), mBin (opB .Add) (mVar 1) (mLit (.int 1))])) mNext) mNext) (mSeq (mIfS (mB (mBin (opC .Eq) (mVar 2) (mLit (.int 1)))) (mSeq (mRet (mLstRg [mBin (opB .Sub) (mLit (.int 1000)) (mVar 1), mLit (.int 1000)])) mNext) mNext) (mSeq (mAsg (mLstRg [mLit (.int 1), mLit (.int 1000)]) (gNm 3)) (mSeq (mRet (mBlt .sorted [mLc (iRange rngOf1 [mVar 1]) (gNm 4) tYesM (mMeth "pop" (mVar 3) [mCallK D1 2 2 0 [0, 1] [mVar 0, mBlt .len [mVar 3]] []]) [4]])) mNext)))))
def h_row (D1 H1 : List D → DH → Res D) : MS := (mSeq (mPar [4, 5] [mCallK H1 2 2 0 [0, 1] [mVar 0, mBin (opB .Add) (mVar 1) (mCallK D1 2 2 0 [0, 1] [mVar 0, mBin (opB .Add) (mBin (opB .Sub) (mVar 2) (mVar 1)) (mLit (.int 1))] [])] [], mLst []]) (mSeq (mFor (iRange rngOf1 [mBlt .len [mVar 4]]) (gNm 3) (mSeq (mDrop (mMeth "append" (mVar 5) [mMeth "pop" (mVar 4) [mCallK D1 2 2 0 [0, 1] [mVar 0, mBlt .len [mVar 4]] []]])) mNext)) (mSeq (mRet (mBlt .tuple [mVar 5])) mNext)))
/-- what a draw gives -/
def DrawOk (F : List D → DH → Res D) : Prop := ∀ (h : DH) (n : Nat) (k : Int), Pool h n → 1 ≤ k → k < 1073741824 → wpR (F [.ref n, .int k] h) (fun d h' => ∃ r, d = .int r ∧ 0 ≤ r ∧ r < k ∧ Pool h' n ∧ Fr n h h' ∧ h'.length = h.length) fun _ _ => False
theorem draw_ok {h : DH} {n : Nat} {k : Int} (p : Pool h n) (h1 : 1 ≤ k) (h2 : k < 1073741824) :
    wpR (runB h_draw 4 [.ref n, .int k] h) (fun d h' => ∃ r, d = .int r ∧ 0 ≤ r ∧ r < k ∧ Pool h' n ∧ Fr n h h' ∧ h'.length = h.length) fun _ _ => False := by
  obtain ⟨a, b, c, e, a0, a1, b0⟩ := p.ex
  have hn : n < h.length := (List.getElem?_eq_some_iff.mp e).1
  have hs : ∀ x, (h.set n x)[n]? = some x := fun x => List.getElem?_set_self hn
  have z0 : 0 ≤ (a * (a % 40961 + 30029) + 70003 * (c + 1)) % 2147483399 := Int.emod_nonneg _ (by decide)
  have z1 : (a * (a % 40961 + 30029) + 70003 * (c + 1)) % 2147483399 < 2147483399 := Int.emod_lt_of_pos _ (by decide)
  simp [h_draw, e, at0, at1, at2, setIx, ix0, ix1, ix2, hs, mulA, a0, a1, mulL]
  split
  · refine ⟨⟨by omega, by rw [hid_eq]; exact h2⟩, Int.emod_nonneg _ (by omega), Int.emod_lt_of_pos _ (by omega), ⟨_, _, _, hs _, z0, z1, Int.ediv_nonneg b0 (by omega)⟩, Fr.set⟩
  · exact ⟨by decide +kernel, by omega, Int.emod_nonneg _ (by omega), Int.emod_lt_of_pos _ (by omega), ⟨_, _, _, hs _, z0, z1, b0⟩, Fr.set⟩
theorem pool_ok {h : DH} {i : Int} : wpR (runB h_pool 2 [.int i] h) (fun d h' => d = .ref h.length ∧ Pool h' h.length ∧ ∃ o, h' = h ++ [o]) fun _ _ => False := by
  have q : powOk 10 18 = true := by
    unfold powOk
    rw [hid_eq]
    decide +kernel
  have z0 : 0 ≤ i % 2147483399 := Int.emod_nonneg _ (by decide)
  have z1 : i % 2147483399 < 2147483399 := Int.emod_lt_of_pos _ (by decide)
  have g : ∀ b c : Int, 0 ≤ b → Pool (h ++ [.lst [.int (i % 2147483399), .int b, .int c]]) h.length := fun b c hb => ⟨_, b, c, by simp, z0, z1, hb⟩
  simp [h_pool, q]
  split
  · exact g _ _ (by omega)
  · split
    · exact g _ _ (by omega)
    · exact g _ _ (Int.le_refl _)
theorem atI_nat {α : Type} {xs : List α} {i : Nat} {x : α} (h : xs[i]? = some x) : atI xs (i : Int) = some x := by
  have hi : i < xs.length := (List.getElem?_eq_some_iff.mp h).1
  unfold atI ixN
  rw [if_pos (by omega), if_pos (by omega)]
  simpa using h
theorem cut_head {α : Type} (xs : List α) (k : Nat) : cutL xs none (some (k : Int)) = xs.take k := by
  unfold cutL
  rw [HT.sIx_none, HT.sIx_nat, List.drop_zero, Nat.sub_zero]
  by_cases h : k ≤ xs.length
  · rw [Nat.min_eq_left h]
  · rw [Nat.min_eq_right (by omega), List.take_length, List.take_of_length_le (by omega)]
theorem sl_scr {h : DH} {ns : List Int} : opSl (.scr ns) none (some 3) h = .ok (.ref h.length) (h ++ [.lst ((ns.take 3).map D.int)]) := by
  show Res.ok (D.ref h.length) (h ++ [O.lst (cutL (ns.map D.int) none (some ((3 : Nat) : Int)))]) = _
  rw [cut_head, List.map_take]
@[simp] theorem srcR {h : DH} {n : Nat} : srcOf (.ref n) h = if isLst h n then some (.lst n) else none := rfl
@[simp] theorem srcT {h : DH} {xs : List D} : srcOf (.tup xs) h = some (isSeq xs) := rfl
theorem isLst_of {h : DH} {n : Nat} {xs : List D} (e : h[n]? = some (.lst xs)) : isLst h n = true := by
  unfold isLst
  rw [e]
theorem cell_rest {h : DH} {ns : List Int} {i m : Int} : wpS ((mSeq (mFor (iPlain (mSl (mVar 0) oNone (mPart (mLit (.int 3))))) (gNm 3) (mSeq (mAsg (mBin (opB .Mod) (mBin (opB .Add) (mBin (opB .Mult) (mVar 2) (mLit (.int 39119))) (mVar 3)) (mLit (.int 2147483399))) (gNm 2)) mNext)) (mSeq (mRet (mVar 2)) mNext)) [some (.scr ns), some (.int i), some (.int (m % 2147483399)), none] h)
    { nx := fun _ _ => False, rt := fun d h' => ∃ i, d = .int i ∧ ∃ l, h' = h ++ l, bk := fun _ _ => False, ct := fun _ _ => False, ex := fun _ _ _ => False } := by
  have hl : isLst (h ++ [.lst ((ns.take 3).map D.int)]) h.length = true := isLst_of (xs := (ns.take 3).map D.int) (by simp)
  simp only [w_seq, w_for, w_plain, w_sl, w_part, w_oNone, w_lit, w_var, List.getElem?_cons_zero, sl_scr, wpR_ok, srcR, hl, if_true]
  refine for_lst (xs := (ns.take 3).map D.int) (fun j s h' => h' = h ++ [.lst ((ns.take 3).map D.int)] ∧ ∃ m v, s = [some (.scr ns), some (.int i), some (.int (m % 2147483399)), v]) ⟨rfl, m, none, rfl⟩ (by simp; omega) (fun j s h' _ inv => ?_) (fun j d s h' hd inv => ?_) fun s h' inv => ?_
  · rw [inv.1]
    simp
  · obtain ⟨rfl, m, v, rfl⟩ := inv
    rw [List.getElem?_map] at hd
    obtain ⟨z, hz, rfl⟩ := map_inv hd
    have z0 : 0 ≤ m % 2147483399 := Int.emod_nonneg _ (by decide)
    have z1 : m % 2147483399 < 2147483399 := Int.emod_lt_of_pos _ (by decide)
    generalize m % 2147483399 = q at z0 z1
    simp [mulA, z0, z1]
    exact ⟨_, rfl⟩
  · obtain ⟨rfl, m, v, rfl⟩ := inv
    simp
theorem cell_ok {h : DH} {ns : List Int} {i : Int} (h0 : 0 ≤ i) (h1 : i < 1000) : wpR (runB h_cell 4 [.scr ns, .int i] h) (fun d h' => ∃ i, d = .int i ∧ ∃ l, h' = h ++ l) fun _ _ => False := by
  have m1 : mulOk i i = true := mulL _ (by omega) (by omega)
  unfold h_cell
  rw [w_run, w_seq, w_ifS]
  simp only [w_mB, w_bin, w_var, w_blt, w_args, w_args0, b_lenS, wpR_ok, c_lt, List.map_cons, List.map_nil, List.length_cons, List.length_nil, List.cons_append, List.nil_append, List.getElem?_cons_succ, List.getElem?_cons_zero, decide_eq_true_eq]
  split
  · rename_i hlt
    have hk : i.toNat < ns.length := by omega
    have e : atI (ns.map D.int) i = some (.int (ns[i.toNat]'hk)) := by
      have e1 : (ns.map D.int)[i.toNat]? = some (.int (ns[i.toNat]'hk)) := by rw [List.getElem?_map, List.getElem?_eq_getElem hk]; rfl
      have := atI_nat e1
      rwa [show ((i.toNat : Nat) : Int) = i by omega] at this
    simp [e]
  · simp only [w_next, w_seq, w_asg]
    simp [m1, mulL]
    have := cell_rest (h := h) (ns := ns) (i := i) (m := 70003 * (i * i + 11 * i + 7))
    simpa using this
end
end PyI
-- PyZ
/-! PyZ: heights and rows -/
namespace PyI
noncomputable section
open PySem PySem.Spec L2
/-- a list of heights -/
structure HL (L : List Int) : Prop where
  nd : L.Nodup
  rg : ∀ x ∈ L, 1 ≤ x ∧ x ≤ 999
theorem HL.perm {L M : List Int} (h : HL L) (p : M.Perm L) : HL M := ⟨p.nodup_iff.mpr h.nd, fun x hx => h.rg x (p.mem_iff.mp hx)⟩
def rgL (u v : Int) : List Int := (List.range (v - u).toNat).map fun i => u + (i : Nat)
theorem rgD_eq (u v : Int) : rgD u v = (rgL u v).map D.int := by
  unfold rgD rgL
  rw [List.map_map]
  rfl
theorem rgL_len (u v : Int) : (rgL u v).length = (v - u).toNat := by
  unfold rgL
  rw [List.length_map, List.length_range]
theorem rgL_mem {u v x : Int} (h : x ∈ rgL u v) : u ≤ x ∧ x < v := by
  unfold rgL at h
  obtain ⟨i, hi, rfl⟩ := List.mem_map.mp h
  have := List.mem_range.mp hi
  omega
theorem rgL_nd (u v : Int) : (rgL u v).Nodup := by
  unfold rgL
  rw [List.nodup_iff_pairwise_ne, List.pairwise_map]
  refine (List.nodup_iff_pairwise_ne.mp List.nodup_range).imp fun {a b} hab => ?_
  intro e
  exact hab (by omega)
theorem intsOf_map : ∀ L : List Int, intsOf (L.map D.int) = some L
  | [] => rfl
  | x :: r => by
    show (intsOf (r.map D.int)).map (x :: ·) = _
    rw [intsOf_map r]
    rfl
section
variable {h : DH} {n m : Nat} {xs : List D}
theorem mth_pop (e : h[m]? = some (.lst xs)) : mthOf "pop" (.ref m) h = some .pop := by
  unfold mthOf
  dsimp only
  rw [e]
  rfl
theorem mth_append (e : h[m]? = some (.lst xs)) : mthOf "append" (.ref m) h = some .append := by
  unfold mthOf
  dsimp only
  rw [e]
  rfl
theorem mth_index (e : h[m]? = some (.lst xs)) : mthOf "index" (.ref m) h = some .lindex := by
  unfold mthOf
  dsimp only
  rw [e]
  rfl
theorem mth_extend (e : h[m]? = some (.lst xs)) : mthOf "extend" (.ref m) h = some .extend := by
  unfold mthOf
  dsimp only
  rw [e]
  rfl
theorem mth_count (e : h[m]? = some (.lst xs)) : mthOf "count" (.ref m) h = some .lcount := by
  unfold mthOf
  dsimp only
  rw [e]
  rfl
theorem mth_join {x : Str} : mthOf "join" (.str x) h = some .join := rfl
theorem pop_at {r : Int} (e : h[m]? = some (.lst xs)) (h0 : 0 ≤ r) (h1 : r < xs.length) (h2 : xs.length < 1000000) : mthF .pop (.ref m) [.int r] h = .ok (xs[r.toNat]'(by omega)) (h.set m (.lst (xs.eraseIdx r.toNat))) := by
  unfold mthF
  dsimp only
  rw [e]
  dsimp only
  have c : -hid 9223372036854775808 ≤ r ∧ r < hid 9223372036854775808 := by rw [hid_eq]; omega
  rw [if_pos c]
  have s : seqIndex? r xs.length = some r.toNat := by
    unfold seqIndex?
    simp [h0, h1, show ¬ r < 0 by omega]
  rw [s]
  dsimp only
  rw [List.getElem?_eq_getElem (by omega)]
  rfl
theorem append_at {d : D} (e : h[m]? = some (.lst xs)) (h2 : xs.length < 16777216) : mthF .append (.ref m) [d] h = .ok .non (h.set m (.lst (xs ++ [d]))) := by
  unfold mthF
  dsimp only
  rw [e]
  dsimp only
  rw [if_pos h2]
  rfl
theorem sorted_at {L : List Int} (e : h[m]? = some (.lst (L.map D.int))) : bltF .sorted [.ref m] h = .ok (.ref h.length) (h ++ [.lst ((isort L).map D.int)]) := by
  have q : (listOf h (.ref m)).bind intsOf = some L := by
    unfold listOf
    dsimp only
    rw [e]
    exact intsOf_map L
  unfold bltF
  dsimp only
  rw [q]
theorem sorted_tup {L : List Int} : bltF .sorted [.tup (L.map D.int)] h = .ok (.ref h.length) (h ++ [.lst ((isort L).map D.int)]) := by
  have q : (listOf h (.tup (L.map D.int))).bind intsOf = some L := intsOf_map L
  unfold bltF
  dsimp only
  rw [q]
end
theorem map_erase (f : Int → D) : ∀ (L : List Int) (k : Nat), (L.map f).eraseIdx k = (L.eraseIdx k).map f
  | [], k => rfl
  | x :: r, 0 => rfl
  | x :: r, k + 1 => by
    show f x :: (r.map f).eraseIdx k = f x :: (r.eraseIdx k).map f
    rw [map_erase f r k]
theorem Fr.setNew {n m : Nat} {h h' : DH} {o : O} (f : Fr n h h') (hm : h.length ≤ m) : Fr n h (h'.set m o) := ⟨by rw [List.length_set]; exact f.le, fun j u hj e => by
  have := (List.getElem?_eq_some_iff.mp e).1
  rw [List.getElem?_set_ne (by omega)]
  exact f.old j u hj e⟩
theorem erase_split {L : List Int} {k : Nat} (hk : k < L.length) : (L[k] :: L.eraseIdx k).Perm L := by
  rw [List.eraseIdx_eq_take_drop_succ]
  have e : L = L.take k ++ (L[k] :: L.drop (k + 1)) := by rw [List.getElem_cons_drop, List.take_append_drop]
  have q : (L[k] :: (L.take k ++ L.drop (k + 1))).Perm (L.take k ++ (L[k] :: L.drop (k + 1))) := List.perm_middle.symm
  rwa [← e] at q
def HeightsPost (h : DH) (n : Nat) (z : Int) (d : D) (h' : DH) : Prop := ∃ m L, d = .ref m ∧ h.length ≤ m ∧ h'[m]? = some (.lst (L.map D.int)) ∧ (L.length : Int) = z ∧ HL L ∧ Pool h' n ∧ Fr n h h'
def HeightsOk (F : List D → DH → Res D) : Prop := ∀ (h : DH) (n : Nat) (z : Int), Pool h n → 1 ≤ z → z ≤ 999 → wpR (F [.ref n, .int z] h) (HeightsPost h n z) fun _ _ => False
theorem Pool.lt {h : DH} {n : Nat} (p : Pool h n) : n < h.length := let ⟨_, _, _, e, _⟩ := p.ex; (List.getElem?_eq_some_iff.mp e).1
theorem Pool.set {h : DH} {n m : Nat} {o : O} (p : Pool h n) (hm : n ≠ m) : Pool (h.set m o) n := let ⟨a, b, c, e, r⟩ := p.ex; ⟨a, b, c, by rw [List.getElem?_set_ne (Ne.symm hm)]; exact e, r⟩
theorem heights_ok {D1 : List D → DH → Res D} (dr : DrawOk D1) {h : DH} {n : Nat} {z : Int} (p : Pool h n) (z0 : 1 ≤ z) (z1 : z ≤ 999) : wpR (runB (h_heights D1) 5 [.ref n, .int z] h) (HeightsPost h n z) fun _ _ => False := by
  simp [h_heights]
  refine wpR_mono (dr h n 4 p (by decide) (by decide)) fun d h1 hd => ?_
  obtain ⟨r, rfl, r0, r1, p1, f1, l1⟩ := hd
  have pl := p1.lt
  have r1' : rgOk 1 (z + 1) = true := by unfold rgOk smallI; rw [hid_eq]; simp; omega
  have r2' : rgOk (1000 - z) 1000 = true := by unfold rgOk smallI; rw [hid_eq]; simp; omega
  have r3' : rgOk 1 1000 = true := by unfold rgOk smallI; rw [hid_eq]; decide +kernel
  have s1 : smallI z = true := by unfold smallI; rw [hid_eq]; simp; omega
  have give : ∀ u v : Int, rgOk u v = true → 1 ≤ u → v ≤ 1000 → v - u = z → HeightsPost h n z (.ref h1.length) (h1 ++ [.lst (rgD u v)]) := fun u v _ hu hv hz =>
    ⟨h1.length, rgL u v, rfl, by omega, by rw [rgD_eq]; simp, by rw [rgL_len]; omega, ⟨rgL_nd _ _, fun x hx => by have := rgL_mem hx; omega⟩, p1.app, f1.trans Fr.app⟩
  simp [r1', r2', r3', s1]
  split
  · exact give _ _ r1' (by omega) (by omega) (by omega)
  · split
    · exact give _ _ r2' (by omega) (by omega) (by omega)
    · have len := rgL_len 1 1000
      refine lc_fix (fun i acc hh => ∃ L M : List Int, acc = L.map D.int ∧ L.length = i ∧ hh[h1.length]? = some (.lst (M.map D.int)) ∧ (L ++ M).Perm (rgL 1 1000) ∧ Pool hh n ∧ Fr n h hh ∧ h1.length < hh.length) ?_ (by omega) (fun i acc hh hi inv => ?_) fun acc hh inv => ?_
      · exact ⟨[], rgL 1 1000, rfl, rfl, by rw [rgD_eq]; simp, by simp, p1.app, f1.trans Fr.app, by simp⟩
      · obtain ⟨L, M, rfl, hL, hM, pm, pp, ff, hlt⟩ := inv
        have hc := pm.length_eq
        rw [List.length_append, len] at hc
        have hMl : M.length = 999 - i := by omega
        have hi2 : i < 999 := by omega
        simp [mth_pop hM, hM]
        refine wpR_mono (dr hh n M.length pp (by omega) (by omega)) fun d h2 hd => ?_
        obtain ⟨k, rfl, k0, k1, p2, f2, l2⟩ := hd
        have e2 : h2[h1.length]? = some (.lst (M.map D.int)) := f2.old _ _ (by omega) hM
        have hk : k.toNat < M.length := by omega
        rw [pop_at e2 k0 (by simpa using k1) (by simp; omega)]
        simp
        refine ⟨by omega, L ++ [M[k.toNat]], by simp, by simp [hL], M.eraseIdx k.toNat, ?_, ?_, p2.set (by omega), (ff.trans f2).setNew (by omega), by omega⟩
        · rw [List.getElem?_set_self (by omega), map_erase]
        · rw [List.append_assoc]
          exact ((erase_split hk).append_left L).trans pm
      · obtain ⟨L, M, rfl, hL, hM, pm, pp, ff, hlt⟩ := inv
        rw [sorted_at (L := L) (by simp)]
        simp
        have hl : HL (rgL 1 1000) := ⟨rgL_nd _ _, fun x hx => by have := rgL_mem hx; omega⟩
        have hl2 : HL L := ⟨((pm.nodup_iff.mpr hl.nd).sublist (List.sublist_append_left L M)), fun x hx => hl.rg x (pm.mem_iff.mp (List.mem_append_left M hx))⟩
        refine ⟨_, isort L, rfl, ?_, by simp, ?_, hl2.perm (isort_perm L), ?_, ?_⟩
        · have := ff.le
          simp
          omega
        · rw [(isort_perm L).length_eq]
          omega
        · exact pp.app
        · exact ff.trans Fr.app
/-- a row -/
def RowPost (h : DH) (n : Nat) (lo hi : Int) (d : D) (h' : DH) : Prop := ∃ L : List Int, d = .tup (L.map D.int) ∧ lo ≤ L.length ∧ (L.length : Int) ≤ hi ∧ HL L ∧ Pool h' n ∧ Fr n h h'
def RowOk (F : List D → DH → Res D) : Prop := ∀ (h : DH) (n : Nat) (lo hi : Int), Pool h n → 1 ≤ lo → lo ≤ hi → hi ≤ 999 → wpR (F [.ref n, .int lo, .int hi] h) (RowPost h n lo hi) fun _ _ => False
theorem row_ok {D1 H1 : List D → DH → Res D} (dr : DrawOk D1) (ho : HeightsOk H1) {h : DH} {n : Nat} {lo hi : Int} (p : Pool h n) (z0 : 1 ≤ lo) (z1 : lo ≤ hi) (z2 : hi ≤ 999) : wpR (runB (h_row D1 H1) 6 [.ref n, .int lo, .int hi] h) (RowPost h n lo hi) fun _ _ => False := by
  simp [h_row]
  refine wpR_mono (dr h n (hi - lo + 1) p (by omega) (by omega)) fun d h1 hd => ?_
  obtain ⟨r, rfl, r0, r1, p1, f1, l1⟩ := hd
  simp
  refine wpR_mono (ho h1 n (lo + r) p1 (by omega) (by omega)) fun d h2 hd => ?_
  obtain ⟨m, L, rfl, hm, eL, lL, hl, p2, f2⟩ := hd
  have pl := p2.lt
  have hm2 : m < h2.length := (List.getElem?_eq_some_iff.mp eL).1
  have eL' : (h2 ++ [O.lst []])[m]? = some (.lst (L.map D.int)) := by rw [List.getElem?_append_left hm2]; exact eL
  have sm : smallI (L.length : Int) = true := by unfold smallI; rw [hid_eq]; simp; omega
  have pn := p.lt
  simp [eL', sm]
  refine for_fix (fun i s hh => ∃ (A M : List Int) (v : Option D), s = [some (.ref n), some (.int lo), some (.int hi), v, some (.ref m), some (.ref h2.length)] ∧ A.length = i ∧ List.Perm (A ++ M) L ∧ hh[m]? = some (.lst (M.map D.int)) ∧ hh[h2.length]? = some (.lst (A.map D.int)) ∧ Pool hh n ∧ Fr n h hh)
    ⟨[], L, none, rfl, rfl, by simp, eL', by simp, p2.app, (f1.trans f2).trans Fr.app⟩ (by omega) (fun i s hh hi' inv => ?_) fun s hh inv => ?_
  · obtain ⟨A, M, v, rfl, hA, pm, eM, eA, pp, ff⟩ := inv
    have hc := pm.length_eq
    rw [List.length_append] at hc
    simp [mth_append eA, mth_pop eM, eM]
    refine wpR_mono (dr hh n M.length pp (by omega) (by omega)) fun d h3 hd => ?_
    obtain ⟨k, rfl, k0, k1, p3, f3, l3⟩ := hd
    have e3 : h3[m]? = some (.lst (M.map D.int)) := f3.old _ _ (by omega) eM
    have a3 : h3[h2.length]? = some (.lst (A.map D.int)) := f3.old _ _ (by omega) eA
    have hk : k.toNat < M.length := by omega
    have hlt : h2.length < h3.length := (List.getElem?_eq_some_iff.mp a3).1
    rw [pop_at e3 k0 (by simpa using k1) (by simp; omega)]
    have a4 : (h3.set m (.lst ((M.map D.int).eraseIdx k.toNat)))[h2.length]? = some (.lst (A.map D.int)) := by rw [List.getElem?_set_ne (by omega)]; exact a3
    simp
    rw [append_at a4 (by simp; omega)]
    simp
    refine ⟨A ++ [M[k.toNat]], by simp [hA], M.eraseIdx k.toNat, ?_, ?_, ?_, ?_, ?_⟩
    · rw [List.append_assoc]
      exact ((erase_split hk).append_left A).trans pm
    · rw [List.getElem?_set_ne (by omega), List.getElem?_set_self (by omega), map_erase]
    · rw [List.getElem?_set_self (by simp; omega)]
      simp
    · exact (p3.set (by omega)).set (by omega)
    · exact ((ff.trans f3).setNew (by have := f1.le; omega)).setNew (by have := f1.le; have := f2.le; omega)
  · obtain ⟨A, M, v, rfl, hA, pm, eM, eA, pp, ff⟩ := inv
    have hc := pm.length_eq
    rw [List.length_append] at hc
    have hM : M = [] := List.length_eq_zero_iff.mp (by omega)
    subst hM
    simp [eA]
    refine ⟨A, rfl, by omega, by omega, hl.perm (by simpa using pm), pp, ff⟩
end
end PyI
-- PyZa
/-! PyZa: the law's own line -/
namespace PyI
noncomputable section
open PySem PySem.Spec L2
def CellOk (F : List D → DH → Res D) : Prop := ∀ (h : DH) (ns : List Int) (i : Int), 0 ≤ i → i < 1000 → wpR (F [.scr ns, .int i] h) (fun d h' => ∃ i, d = .int i ∧ ∃ l, h' = h ++ l) fun _ _ => False
def PoolOk (F : List D → DH → Res D) : Prop := ∀ (h : DH) (i : Int), wpR (F [.int i] h) (fun d h' => d = .ref h.length ∧ Pool h' h.length ∧ ∃ o, h' = h ++ [o]) fun _ _ => False
def RightOk (F : List D → DH → Res D) : Prop := ∀ (h : DH) (n : Nat), Pool h n → wpR (F [.ref n] h) (fun d _ => d = .bl true) fun _ _ => False
def h_law (N : Int) (R1 P1 C1 : List D → DH → Res D) : MS := (mSeq (mRet (mBlt .all [mLc (iRange rngOf1 [mBlt .max [mLit (.int 2), mBlt .min [mBlt .len [mVar 0], mLit (.int N)]]]) (gNm 1) tYesM (mCallK R1 1 1 0 [0] [mCallK P1 1 1 0 [0] [mCallK C1 2 2 0 [0, 1] [mVar 0, mVar 1] []] []] []) [1]])) mNext)
theorem boolsOf_map : ∀ L : List Bool, boolsOf (L.map D.bl) = some L
  | [] => rfl
  | x :: r => by
    show (boolsOf (r.map D.bl)).map (x :: ·) = _
    rw [boolsOf_map r]
    rfl
theorem all_at {h : DH} {m : Nat} {L : List Bool} (e : h[m]? = some (.lst (L.map D.bl))) : bltF .all [.ref m] h = .ok (.bl (L.all id)) h := by
  have q : (listOf h (.ref m)).bind boolsOf = some L := by
    unfold listOf
    dsimp only
    rw [e]
    exact boolsOf_map L
  unfold bltF
  dsimp only
  rw [q]
  rfl
theorem smallI_of {i : Int} (h0 : -4611686018427387904 ≤ i) (h1 : i < 4611686018427387904) : smallI i = true := by
  unfold smallI
  rw [hid_eq]
  simp
  omega
theorem law_ok {R1 P1 C1 : List D → DH → Res D} (hr : RightOk R1) (hp : PoolOk P1) (hc : CellOk C1) {N : Int} (h0 : 2 ≤ N) (h1 : N ≤ 900) (ns : List Int) :
    ∃ h', runB (h_law N R1 P1 C1) 2 [.scr ns] [] = .ok (.bl true) h' := by
  have key : wpR (runB (h_law N R1 P1 C1) 2 [.scr ns] []) (fun d _ => d = .bl true) fun _ _ => False := by
    simp [h_law]
    obtain ⟨z, hz⟩ : ∃ z : Int, z = (if 2 < (if N < (ns.length : Int) then N else (ns.length : Int)) then (if N < (ns.length : Int) then N else (ns.length : Int)) else 2) := ⟨_, rfl⟩
    rw [← hz]
    have z0 : 0 ≤ z := by rw [hz]; split <;> (try split) <;> omega
    have z1 : z ≤ 900 := by rw [hz]; split <;> (try split) <;> omega
    have sm : smallI z = true := smallI_of (by omega) (by omega)
    simp [sm]
    refine lc_fix (fun i acc h => acc = List.replicate i (.bl true)) rfl (by omega) (fun i acc h hi inv => ?_) fun acc h inv => ?_
    · subst inv
      simp
      refine wpR_mono (hc h ns i (by omega) (by omega)) fun d h1 hd => ?_
      obtain ⟨c, rfl, l, rfl⟩ := hd
      refine wpR_mono (hp (h ++ l) c) fun d h2 hd => ?_
      obtain ⟨rfl, pp, o, rfl⟩ := hd
      refine wpR_mono (hr _ _ pp) fun d h3 hd => ?_
      subst hd
      refine ⟨by omega, ?_⟩
      rw [List.replicate_succ']
    · subst inv
      have e : (h ++ [O.lst (List.replicate z.toNat (D.bl true))])[h.length]? = some (.lst ((List.replicate z.toNat true).map D.bl)) := by simp
      rw [all_at e]
      simp
  obtain ⟨d, h', e, rfl⟩ := wpR_ex key
  exact ⟨h', e⟩
end
end PyI
-- PyZb
/-! PyZb: the row's check -/
namespace PyI
noncomputable section
open PySem PySem.Spec L2
def p_is_integer : MS := (mSeq (mRet (mAndE [mBlt .isinst [mVar 0, mLit (.ty "int")], mNotE (mBlt .isinst [mVar 0, mLit (.ty "bool")]), mChain (opC .LtE) (opC .LtE) (mVar 1) (mVar 0) (mVar 2)])) mNext)
def p_is_height (I1 : List D → DH → Res D) : MS := (mSeq (mRet (mCallK I1 3 3 0 [0, 1, 2] [mVar 0, mLit (.int 1), mLit (.int 999)] [])) mNext)
def p_check_row (I2 : List D → DH → Res D) : MS := (mSeq (mIfS (mOrT [mNotT (mTru (mBlt .isinst [mVar 0, mLit (.ty "tuple")])), mNotT (mB (mChain (opC .LtE) (opC .LtE) (mLit (.int 1)) (mBlt .len [mVar 0]) (mLit (.int 12))))]) (mSeq mStNo mNext) mNext) (mSeq (mFor (iEnumM (mVar 0)) (gTp [gNm 1, gNm 2]) (mSeq (mIfS (mOrT [mNotT (mTru (mCallK I2 1 1 0 [0] [mVar 2] [])), mB (mBin (opC .In) (mVar 2) (mSl (mVar 0) oNone (mPart (mVar 1))))]) (mSeq mStNo mNext) mNext) mNext)) mNext))
@[simp] theorem isi_int {h : DH} {i : Int} : isi h (.int i) "int" = some true := rfl
@[simp] theorem isi_intb {h : DH} {i : Int} : isi h (.int i) "bool" = some false := rfl
@[simp] theorem isi_tup {h : DH} {xs : List D} : isi h (.tup xs) "tuple" = some true := rfl
def IntegerOk (F : List D → DH → Res D) : Prop := ∀ (h : DH) (x a b : Int), wpR (F [.int x, .int a, .int b] h) (fun d h' => d = .bl (decide (a ≤ x) && decide (x ≤ b)) ∧ h' = h) fun _ _ => False
def HeightOk (F : List D → DH → Res D) : Prop := ∀ (h : DH) (x : Int), 1 ≤ x → x ≤ 999 → wpR (F [.int x] h) (fun d h' => d = .bl true ∧ h' = h) fun _ _ => False
def CheckOk (F : List D → DH → Res D) : Prop := ∀ (h : DH) (L : List Int), HL L → 1 ≤ L.length → L.length ≤ 12 → wpR (F [.tup (L.map D.int)] h) (fun d h' => d = .non ∧ h' = h) fun _ _ => False
theorem integer_ok {h : DH} {x a b : Int} : wpR (runB p_is_integer 3 [.int x, .int a, .int b] h) (fun d h' => d = .bl (decide (a ≤ x) && decide (x ≤ b)) ∧ h' = h) fun _ _ => False := by
  simp [p_is_integer]
  split
  · rename_i q; simp [q]
  · rename_i q; simp [q]
theorem height_ok {I1 : List D → DH → Res D} (hi : IntegerOk I1) {h : DH} {x : Int} (h0 : 1 ≤ x) (h1 : x ≤ 999) : wpR (runB (p_is_height I1) 1 [.int x] h) (fun d h' => d = .bl true ∧ h' = h) fun _ _ => False := by
  simp [p_is_height]
  refine wpR_mono (hi h x 1 999) fun d h' hd => ?_
  obtain ⟨rfl, rfl⟩ := hd
  simp [h0, h1]
theorem in_tup {h : DH} {L : List Int} {x : Int} : inD h (.int x) (.tup (L.map D.int)) = some (decide (x ∈ L)) := by
  have a : (flatD (.int x) && (L.map D.int).all flatD) = true := by
    simp [flatD]
  have b : inF (.int x) (L.map D.int) = decide (x ∈ L) := by
    unfold inF
    rw [List.any_map]
    rw [Bool.eq_iff_iff]
    simp [eqF, Function.comp]
  show (if (flatD (.int x) && (L.map D.int).all flatD) = true then some (inF (.int x) (L.map D.int)) else none) = _
  rw [if_pos a, b]
theorem sl_tup {h : DH} {xs : List D} {k : Nat} : opSl (.tup xs) none (some (k : Int)) h = .ok (.tup (xs.take k)) h := by
  show Res.ok (D.tup (cutL xs none (some (k : Int)))) h = _
  rw [cut_head]
@[simp] theorem c_in {h : DH} {x y : D} : opC .In x y h = retB (inD h x y) h := rfl
theorem check_ok {I2 : List D → DH → Res D} (hh : HeightOk I2) {h : DH} {L : List Int} (hl : HL L) (h0 : 1 ≤ L.length) (h1 : L.length ≤ 12) : wpR (runB (p_check_row I2) 3 [.tup (L.map D.int)] h) (fun d h' => d = .non ∧ h' = h) fun _ _ => False := by
  have c0 : (1 : Int) ≤ (L.length : Int) := by omega
  have c1 : (L.length : Int) ≤ 12 := by omega
  simp [p_check_row, c0, c1, enumOf]
  unfold isEnum
  refine for_fix (fun i s h' => (∃ u v, s = [some (.tup (L.map D.int)), u, v]) ∧ h' = h) ⟨⟨none, none, rfl⟩, rfl⟩ (by simp; omega) (fun i s h' hi inv => ?_) fun s h' inv => ?_
  · obtain ⟨⟨u, v, rfl⟩, rfl⟩ := inv
    have hi : i < L.length := by simpa using hi
    have eg : (L.map D.int).getD i .non = .int L[i] := by rw [List.getD_eq_getElem?_getD, List.getElem?_map, List.getElem?_eq_getElem hi]; rfl
    rw [eg]
    have m := hl.rg L[i] (List.getElem_mem hi)
    simp
    refine wpR_mono (hh h' L[i] m.1 m.2) fun d h2 hd => ?_
    obtain ⟨rfl, rfl⟩ := hd
    simp [sl_tup]
    rw [← List.map_take, in_tup]
    have nm : L[i] ∉ L.take i := by
      intro hm
      obtain ⟨j, hj, e⟩ := List.mem_iff_getElem.mp hm
      rw [List.length_take] at hj
      rw [List.getElem_take] at e
      have := (List.getElem_inj hl.nd).mp e
      omega
    simp [nm]
  · obtain ⟨_, rfl⟩ := inv
    simp
end
end PyI
-- PyZc
/-! PyZc: equal values; lists of ints, texts -/
namespace PyI
noncomputable section
open PySem PySem.Spec L2
theorem eqvAll_ints : ∀ L M : List Int, PyData.eqvAll (L.map PyData.int) (M.map PyData.int) = decide (L = M)
  | [], [] => by rw [List.map_nil, PyData.eqvAll]; rfl
  | [], _ :: _ => by rw [List.map_nil, List.map_cons, PyData.eqvAll]; rfl
  | _ :: _, [] => by rw [List.map_nil, List.map_cons, PyData.eqvAll]; rfl
  | x :: L, y :: M => by
    rw [List.map_cons, List.map_cons, PyData.eqvAll, PyData.eqv, eqvAll_ints L M]
    by_cases h : x = y
    · subst h; simp
    · simp [h]
theorem toPys_ints (f : Nat) (h : DH) : ∀ L : List Int, (L.map D.int).mapM (toPy (f + 1) h) = some (L.map PyData.int)
  | [] => rfl
  | x :: r => by
    rw [List.map_cons, List.mapM_cons, toPys_ints f h r]
    rfl
theorem toPy_lst {f : Nat} {h : DH} {m : Nat} {L : List Int} (e : h[m]? = some (.lst (L.map D.int))) : toPy (f + 2) h (.ref m) = some (.list (L.map PyData.int)) := by
  show (match h[m]? with | some (.lst xs) => (xs.mapM (toPy (f + 1) h)).map PyData.list | _ => none) = _
  rw [e]
  dsimp only
  rw [toPys_ints]
  rfl
theorem toPy_tup {f : Nat} {h : DH} {L : List Int} : toPy (f + 2) h (.tup (L.map D.int)) = some (.tuple (L.map PyData.int)) := by
  show ((L.map D.int).mapM (toPy (f + 1) h)).map PyData.tuple = _
  rw [toPys_ints]
  rfl
theorem lay_ints : ∀ L : List Int, PyData.canLayAll0 (L.map PyData.int) = true
  | [] => by rw [List.map_nil, PyData.canLayAll0]
  | x :: r => by rw [List.map_cons, PyData.canLayAll0, lay_ints r, PyData.canLay0]; rfl
theorem dep_ints : ∀ L : List Int, PyData.depthAll (L.map PyData.int) = 0
  | [] => by rw [List.map_nil, PyData.depthAll]
  | x :: r => by rw [List.map_cons, PyData.depthAll, dep_ints r, PyData.depth]; rfl
theorem shaped_lst (L : List Int) : SeqAt.shaped (.list (L.map PyData.int)) = true := by
  unfold SeqAt.shaped
  rw [PyData.canLay0, lay_ints, PyData.depth, dep_ints]
  rfl
theorem shaped_tup (L : List Int) : SeqAt.shaped (.tuple (L.map PyData.int)) = true := by
  unfold SeqAt.shaped
  rw [PyData.canLay0, lay_ints, PyData.depth, dep_ints]
  rfl
section
variable {h : DH} {m n : Nat} {L M : List Int}
theorem eq_lst (e : h[m]? = some (.lst (L.map D.int))) (f : h[n]? = some (.lst (M.map D.int))) : eqD h (.ref m) (.ref n) = some (decide (L = M)) := by
  unfold eqD
  rw [toPy_lst e, toPy_lst f]
  dsimp only
  rw [shaped_lst, shaped_lst, if_pos (show (true && true) = true from rfl), PyData.eqv, eqvAll_ints]
theorem eq_tup : eqD h (.tup (L.map D.int)) (.tup (M.map D.int)) = some (decide (L = M)) := by
  unfold eqD
  rw [toPy_tup, toPy_tup]
  dsimp only
  rw [shaped_tup, shaped_tup, if_pos (show (true && true) = true from rfl), PyData.eqv, eqvAll_ints]
@[simp] theorem c_neR : opC .NotEq (.ref m) (.ref n) h = retB ((eqD h (.ref m) (.ref n)).map not) h := rfl
@[simp] theorem c_eqR : opC .Eq (.ref m) (.ref n) h = retB (eqD h (.ref m) (.ref n)) h := rfl
@[simp] theorem c_neT {a b : List D} : opC .NotEq (.tup a) (.tup b) h = retB ((eqD h (.tup a) (.tup b)).map not) h := rfl
@[simp] theorem c_eqT {a b : List D} : opC .Eq (.tup a) (.tup b) h = retB (eqD h (.tup a) (.tup b)) h := rfl
end
/-! ### places in a sorted list -/
theorem idx_sorted {x : Int} : ∀ {M : List Int}, M.Pairwise (· < ·) → x ∈ M → idxF (.int x) (M.map D.int) = some (M.filter fun y => decide (y < x)).length
  | y :: r, hs, hx => by
    rw [List.pairwise_cons] at hs
    show (if eqF (.int y) (.int x) = true then some 0 else (idxF (.int x) (r.map D.int)).map (· + 1)) = _
    by_cases e : y = x
    · subst e
      have ef : eqF (.int y) (.int y) = true := by simp [eqF]
      rw [if_pos ef]
      have : ((y :: r).filter fun z => decide (z < y)) = [] := by
        rw [List.filter_eq_nil_iff]
        intro z hz
        rcases List.mem_cons.mp hz with q | q
        · subst q; simp
        · have := hs.1 z q
          simp
          omega
      rw [this]
      rfl
    · have ef : eqF (.int y) (.int x) ≠ true := by simp [eqF, e]
      rw [if_neg ef]
      have hx2 : x ∈ r := (List.mem_cons.mp hx).resolve_left fun q => e q.symm
      rw [idx_sorted hs.2 hx2]
      have := hs.1 x hx2
      rw [List.filter_cons_of_pos (by simpa using this)]
      rfl
theorem isort_lt {L : List Int} (h : L.Nodup) : (isort L).Pairwise (· < ·) := by
  have a := isort_pw L
  have b : (isort L).Nodup := (isort_perm L).nodup_iff.mpr h
  rw [List.nodup_iff_pairwise_ne] at b
  refine (a.and b).imp fun {x y} q => ?_
  have := q.1
  have := q.2
  omega
theorem idx_isort {L : List Int} {x : Int} (h : L.Nodup) (hx : x ∈ L) : idxF (.int x) ((isort L).map D.int) = some (L.filter fun y => decide (y < x)).length := by
  rw [idx_sorted (isort_lt h) ((isort_perm L).mem_iff.mpr hx), ((isort_perm L).filter _).length_eq]
theorem index_at {h : DH} {m : Nat} {M : List Int} {x : Int} (e : h[m]? = some (.lst (M.map D.int))) : mthF .lindex (.ref m) [.int x] h = retD ((idxF (.int x) (M.map D.int)).map fun k => .int (k : Nat)) h := by
  have a : (flatD (.int x) && (M.map D.int).all flatD) = true := by simp [flatD]
  unfold mthF
  dsimp only
  rw [e]
  dsimp only
  rw [if_pos a]
/-! ### ranks, signs -/
def p_ranks (K1 : List D → DH → Res D) : MS := (mSeq (mDrop (mCallK K1 1 1 0 [0] [mVar 0] [])) (mSeq (mAsg (mBlt .sorted [mVar 0]) (gNm 1)) (mSeq (mRet (mBlt .tuple [mLc (iPlain (mVar 0)) (gNm 2) tYesM (mBin (opB .Add) (mLit (.int 1)) (mMeth "index" (mVar 1) [mVar 2])) [2]])) mNext)))
def rankOf (L : List Int) (x : Int) : Int := 1 + ((L.filter fun y => decide (y < x)).length : Nat)
def RanksOk (F : List D → DH → Res D) : Prop := ∀ (h : DH) (L : List Int), HL L → 1 ≤ L.length → L.length ≤ 12 → wpR (F [.tup (L.map D.int)] h) (fun d h' => d = .tup ((L.map (rankOf L)).map D.int) ∧ ∃ l, h' = h ++ l) fun _ _ => False
theorem ranks_ok {K1 : List D → DH → Res D} (hk : CheckOk K1) {h : DH} {L : List Int} (hl : HL L) (h0 : 1 ≤ L.length) (h1 : L.length ≤ 12) : wpR (runB (p_ranks K1) 3 [.tup (L.map D.int)] h) (fun d h' => d = .tup ((L.map (rankOf L)).map D.int) ∧ ∃ l, h' = h ++ l) fun _ _ => False := by
  simp [p_ranks]
  refine wpR_mono (hk h L hl h0 h1) fun d h2 hd => ?_
  obtain ⟨_, rfl⟩ := hd
  rw [sorted_tup]
  simp
  refine lc_seq (J := fun h' => h' = h2 ++ [.lst ((isort L).map D.int)]) (p := fun _ => true) (v := fun d => match d with | .int x => .int (rankOf L x) | d => d) rfl (by simp; omega) (fun d h' hd inv => ?_) fun h' inv => ?_
  · subst inv
    obtain ⟨x, hx, rfl⟩ := List.mem_map.mp hd
    have e : (h2 ++ [O.lst ((isort L).map D.int)])[h2.length]? = some (.lst ((isort L).map D.int)) := by simp
    simp [mth_index e, index_at e, idx_isort hl.nd hx, rankOf]
  · subst inv
    simp
    rw [List.filter_eq_self.mpr fun _ _ => rfl, List.map_map]
    rfl
end
end PyI
-- PyZd
/-! PyZd: signs; k02's turn -/
namespace PyI
noncomputable section
open PySem PySem.Spec L2
theorem strsOf_map : ∀ L : List Str, strsOf (L.map D.str) = some L
  | [] => rfl
  | x :: r => by
    show (strsOf (r.map D.str)).map (x :: ·) = _
    rw [strsOf_map r]
    rfl
theorem join_at {h : DH} {m : Nat} {a : Str} {L : List Str} (e : h[m]? = some (.lst (L.map D.str))) (hb : (L.map (·.length)).sum + L.length * a.length ≤ 16777216) : mthF .join (.str a) [.ref m] h = .ok (.str (Txt.join a L)) h := by
  have q : (listOf h (.ref m)).bind strsOf = some L := by
    unfold listOf
    dsimp only
    rw [e]
    exact strsOf_map L
  unfold mthF
  dsimp only
  rw [q]
  dsimp only
  rw [if_pos hb]
def sgn (t x : Int) : Str := if t ≤ x then "1" else "0"
theorem sgn_len (t x : Int) : (sgn t x).length = 1 := by
  unfold sgn
  split <;> rfl
theorem sgn_sum (t : Int) : ∀ L : List Int, (((L.map (sgn t)).map (·.length)).sum) = L.length
  | [] => rfl
  | x :: r => by
    rw [List.map_cons, List.map_cons, List.sum_cons, sgn_sum t r, sgn_len, List.length_cons]
    omega
theorem sgn_fit (t : Int) {L : List Int} (h : L.length ≤ 12) : (((L.map (sgn t)).map (·.length)).sum) + (L.map (sgn t)).length * (Str.length "") ≤ 16777216 := by
  rw [sgn_sum, List.length_map, show Str.length "" = 0 from rfl]
  omega
/-- the comprehension of signs -/
theorem lc_signs {h : DH} {L : List Int} {t : Int} {s0 : DS} {i j : Nat} {Q : List D → DH → Prop} {E : Exn → DH → Prop} (hL : L.length ≤ 12) (hi : i < s0.length) (hj : s0[j]? = some (some (.int t))) (hij : j ≠ i) (q : Q ((L.map (sgn t)).map D.str) h) :
    wpR (lcGo (isSeq (L.map D.int)) (gNm i) tYesM (mIf (mB (mBin (opC .GtE) (mVar i) (mVar j))) (mLit (.str "1")) (mLit (.str "0"))) s0 fuel 0 [] h) Q E := by
  refine lc_seq (J := fun h' => h' = h) (p := fun _ => true) (v := fun d => match d with | .int x => .str (sgn t x) | d => d) rfl (by simp; omega) (fun d h' hd inv => ?_) fun h' inv => ?_
  · subst inv
    obtain ⟨x, hx, rfl⟩ := List.mem_map.mp hd
    have a : (s0.set i (some (.int x)))[i]? = some (some (.int x)) := List.getElem?_set_self hi
    have b : (s0.set i (some (.int x)))[j]? = some (some (.int t)) := by rw [List.getElem?_set_ne (Ne.symm hij)]; exact hj
    by_cases c : t ≤ x
    · simp [a, b, sgn, c]
    · simp [a, b, sgn, c]
  · subst inv
    rw [List.filter_eq_self.mpr fun _ _ => rfl, List.map_map]
    rw [List.map_map] at q
    exact q
def p_signs (K1 : List D → DH → Res D) : MS := (mSeq (mDrop (mCallK K1 1 1 0 [0] [mVar 0] [])) (mSeq (mIfS (mOrT [mNotT (mTru (mBlt .isinst [mVar 1, mLit (.ty "int")])), mTru (mBlt .isinst [mVar 1, mLit (.ty "bool")])]) (mSeq mStNo mNext) mNext) (mSeq (mRet (mMeth "join" (mLit (.str "")) [mLc (iPlain (mVar 0)) (gNm 2) tYesM (mIf (mB (mBin (opC .GtE) (mVar 2) (mVar 1))) (mLit (.str "1")) (mLit (.str "0"))) [2]])) mNext)))
def SignsOk (F : List D → DH → Res D) : Prop := ∀ (h : DH) (L : List Int) (t : Int), HL L → 1 ≤ L.length → L.length ≤ 12 → wpR (F [.tup (L.map D.int), .int t] h) (fun d h' => d = .str (Txt.join "" (L.map (sgn t))) ∧ ∃ l, h' = h ++ l) fun _ _ => False
theorem signs_ok {K1 : List D → DH → Res D} (hk : CheckOk K1) {h : DH} {L : List Int} {t : Int} (hl : HL L) (h0 : 1 ≤ L.length) (h1 : L.length ≤ 12) : wpR (runB (p_signs K1) 3 [.tup (L.map D.int), .int t] h) (fun d h' => d = .str (Txt.join "" (L.map (sgn t))) ∧ ∃ l, h' = h ++ l) fun _ _ => False := by
  simp [p_signs]
  refine wpR_mono (hk h L hl h0 h1) fun d h2 hd => ?_
  obtain ⟨_, rfl⟩ := hd
  simp [mth_join]
  refine lc_signs (t := t) h1 (by simp) (by simp) (by decide) ?_
  have e : (h2 ++ [O.lst ((L.map (sgn t)).map D.str)])[h2.length]? = some (.lst ((L.map (sgn t)).map D.str)) := by simp
  rw [join_at e (sgn_fit t h1)]
  simp
end
end PyI
/-! K02r: k02's turn -/
namespace PyI
noncomputable section
open PySem PySem.Spec L2
def r02 (D1 Rw Rk Sg : List D → DH → Res D) : MS := (mSeq (mAsg (mCallK Rw 3 3 0 [0, 1, 2] [mVar 0, mLit (.int 1), mLit (.int 12)] []) (gNm 1)) (mSeq (mAsg (mLc (iPlain (mVar 1)) (gNm 5) tYesM (mBin (opB .Add) (mLit (.int 1)) (mBlt .len [mLc (iPlain (mVar 1)) (gNm 8) (mB (mBin (opC .Lt) (mVar 8) (mVar 5))) (mVar 8) [8]])) [5]) (gNm 2)) (mSeq (mFor (iPlain (mLst [mCallK Rk 1 1 0 [0] [mVar 1] [], mCallK Rk 1 0 1 [0] [] [mVar 1]])) (gNm 3) (mSeq (mIfS (mOrT [mNotT (mTru (mBlt .isinst [mVar 3, mLit (.ty "tuple")])), mB (mBin (opC .NotEq) (mBlt .list [mVar 3]) (mVar 2))]) (mSeq (mRet (mLit (.bl false))) mNext) mNext) (mSeq (mIfS (mNotT (mTru (mBlt .all [mLc (iPlain (mVar 3)) (gNm 9) tYesM (mAndE [mBlt .isinst [mVar 9, mLit (.ty "int")], mNotE (mBlt .isinst [mVar 9, mLit (.ty "bool")])]) [9]]))) (mSeq (mRet (mLit (.bl false))) mNext) mNext) mNext))) (mSeq (mAsg (mLst [mLit (.int 0), mBin (opB .Sub) (mLit (.int 0)) (mLit (.int 7)), mLit (.int 1000), mBin (opB .Pow) (mLit (.int 10)) (mLit (.int 30)), mBin (opB .Add) (mLit (.int 1)) (mCallK D1 2 2 0 [0, 1] [mVar 0, mLit (.int 999)] [])]) (gNm 4)) (mSeq (mFor (iPlain (mVar 1)) (gNm 5) (mSeq (mAsg (mBin (opB .Add) (mVar 4) (mLst [mVar 5, mBin (opB .Add) (mVar 5) (mLit (.int 1)), mBin (opB .Sub) (mVar 5) (mLit (.int 1))])) (gNm 4)) mNext)) (mSeq (mFor (iPlain (mVar 4)) (gNm 6) (mSeq (mAsg (mMeth "join" (mLit (.str "")) [mLc (iPlain (mVar 1)) (gNm 5) tYesM (mIf (mB (mBin (opC .GtE) (mVar 5) (mVar 6))) (mLit (.str "1")) (mLit (.str "0"))) [5]]) (gNm 7)) (mSeq (mIfS (mOrT [mB (mBin (opC .NotEq) (mCallK Sg 2 2 0 [0, 1] [mVar 1, mVar 6] []) (mVar 7)), mB (mBin (opC .NotEq) (mCallK Sg 2 0 2 [1, 0] [] [mVar 6, mVar 1]) (mVar 7))]) (mSeq (mRet (mLit (.bl false))) mNext) mNext) mNext))) (mSeq (mRet (mBin (opC .Eq) (mCallK Rk 1 1 0 [0] [mVar 1] []) (mBlt .tuple [mVar 2]))) mNext)))))))
theorem lc_map {ds : List D} {g : MG} {t : MT} {e : ME} {s0 : DS} {QA : List D → DH → Prop} {E : Exn → DH → Prop} (J : DH → Prop) (v : D → D) {h : DH} (h0 : J h) (hn : ds.length < 1000000)
    (hs : ∀ d h, d ∈ ds → J h → gEx (g d s0 h) fun s1 h1 => wpR (t s1 h1) (fun k h2 => k = true ∧ wpR (e s1 h2) (fun y h3 => y = v d ∧ J h3) (fun _ _ => False)) fun _ _ => False)
    (hd : ∀ h, J h → QA (ds.map v) h) : wpR (lcGo (isSeq ds) g t e s0 fuel 0 [] h) QA E := by
  refine lc_seq J (fun _ => true) v h0 hn (fun d h1 m j => ?_) fun h1 j => ?_
  · have q := hs d h1 m j
    cases eg : g d s0 h1 with
    | none => rw [eg] at q; exact q.elim
    | some p =>
      rw [eg] at q
      refine wpR_mono q fun k h2 z => ?_
      obtain ⟨rfl, z⟩ := z
      exact ⟨rfl, by rw [if_pos rfl]; exact z⟩
  · rw [List.filter_eq_self.mpr fun _ _ => rfl]
    exact hd h1 j
theorem keep_at {h l : DH} {m : Nat} {o : O} (e : h[m]? = some o) : (h ++ l)[m]? = some o := by
  rw [List.getElem?_append_left (List.getElem?_eq_some_iff.mp e).1]
  exact e
theorem lc_due {h : DH} {L : List Int} {s0 : DS} {Q : List D → DH → Prop} {E : Exn → DH → Prop} (hL : L.length ≤ 12) (h1 : s0[1]? = some (some (.tup (L.map D.int)))) (hl : s0.length = 10) (q : ∀ l, Q ((L.map (rankOf L)).map D.int) (h ++ l)) :
    wpR (lcGo (isSeq (L.map D.int)) (gNm 5) tYesM (mBin (opB .Add) (mLit (.int 1)) (mBlt .len [mLc (iPlain (mVar 1)) (gNm 8) (mB (mBin (opC .Lt) (mVar 8) (mVar 5))) (mVar 8) [8]])) s0 fuel 0 [] h) Q E := by
  refine lc_seq (J := fun h' => ∃ l, h' = h ++ l) (p := fun _ => true) (v := fun d => match d with | .int x => .int (rankOf L x) | d => d) ⟨[], by simp⟩ (by simp; omega) (fun d h' hd inv => ?_) fun h' inv => ?_
  · obtain ⟨l, rfl⟩ := inv
    obtain ⟨x, hx, rfl⟩ := List.mem_map.mp hd
    have a : (s0.set 5 (some (.int x)))[1]? = some (some (.tup (L.map D.int))) := by rw [List.getElem?_set_ne (by decide)]; exact h1
    simp [a]
    refine lc_seq (J := fun h' => h' = h ++ l) (p := fun d => match d with | .int y => decide (y < x) | _ => false) (v := fun d => d) rfl (by simp; omega) (fun d h2 hd inv => ?_) fun h2 inv => ?_
    · subst inv
      obtain ⟨y, hy, rfl⟩ := List.mem_map.mp hd
      have b8 : (((s0.set 5 (some (.int x))).set 8 none).set 8 (some (.int y)))[8]? = some (some (.int y)) := List.getElem?_set_self (by simp [hl])
      have b5 : (((s0.set 5 (some (.int x))).set 8 none).set 8 (some (.int y)))[5]? = some (some (.int x)) := by
        rw [List.getElem?_set_ne (by decide), List.getElem?_set_ne (by decide)]
        exact List.getElem?_set_self (by simp [hl])
      simp only [g_nm, gEx_some, w_mB, w_bin, w_var, b8, b5, c_lt, wpR_ok]
      refine ⟨trivial, ?_⟩
      split
      · exact ⟨trivial, trivial⟩
      · trivial
    · subst inv
      have ef : ((L.map D.int).filter fun d => match d with | .int y => decide (y < x) | _ => false) = (L.filter fun y => decide (y < x)).map D.int := by
        rw [List.filter_map]
        rfl
      simp [ef, rankOf]
  · obtain ⟨l, rfl⟩ := inv
    have := q l
    rw [List.filter_eq_self.mpr fun _ _ => rfl, List.map_map]
    rw [List.map_map] at this
    exact this
theorem right02 {D1 Rw Rk Sg : List D → DH → Res D} (dr : DrawOk D1) (rw' : RowOk Rw) (rk : RanksOk Rk) (sg : SignsOk Sg) {h : DH} {n : Nat} (p : Pool h n) : wpR (runB (r02 D1 Rw Rk Sg) 10 [.ref n] h) (fun d _ => d = .bl true) fun _ _ => False := by
  simp [r02]
  refine wpR_mono (rw' h n 1 12 p (by decide) (by decide) (by decide)) fun d h1 hd => ?_
  obtain ⟨L, rfl, l0, l1, hl, p1, f1⟩ := hd
  have m0 : 1 ≤ L.length := by omega
  have m1 : L.length ≤ 12 := by omega
  simp
  refine lc_due m1 (by simp) (by simp) fun l => ?_
  obtain ⟨R, hR⟩ : ∃ R, R = L.map (rankOf L) := ⟨_, rfl⟩
  have e1 : (h1 ++ l ++ [O.lst (R.map D.int)])[(h1 ++ l).length]? = some (.lst (R.map D.int)) := by simp
  have pA : Pool (h1 ++ l ++ [O.lst (R.map D.int)]) n := p1.app.app
  have hdu : (h1 ++ l).length ≠ n := by have := p1.lt; simp; omega
  rw [← hR]
  generalize h1 ++ l ++ [O.lst (R.map D.int)] = hA at e1 pA
  generalize (h1 ++ l).length = du at e1 hdu
  refine wpR_mono (rk hA L hl m0 m1) fun d h2 hd => ?_
  obtain ⟨rfl, g1, rfl⟩ := hd
  refine wpR_mono (rk _ L hl m0 m1) fun d h2 hd => ?_
  obtain ⟨rfl, g2, rfl⟩ := hd
  rw [← hR]
  have eB := keep_at (l := g2) (keep_at (l := g1) e1)
  have pB : Pool (hA ++ g1 ++ g2) n := pA.app.app
  generalize hA ++ g1 ++ g2 = hB at eB pB
  have eC : (hB ++ [O.lst [D.tup (R.map D.int), D.tup (R.map D.int)]])[hB.length]? = some (.lst [.tup (R.map D.int), .tup (R.map D.int)]) := by simp
  have eD := keep_at (l := [O.lst [D.tup (R.map D.int), D.tup (R.map D.int)]]) eB
  have pC : Pool (hB ++ [O.lst [D.tup (R.map D.int), D.tup (R.map D.int)]]) n := pB.app
  rw [isLst_of eC]
  simp only [if_true]
  generalize hB ++ [O.lst [D.tup (R.map D.int), D.tup (R.map D.int)]] = hC at eC eD pC
  generalize hB.length = kC at eC
  refine for_lst (xs := [.tup (R.map D.int), .tup (R.map D.int)]) (fun i s h' => (∃ v, s = [some (.ref n), some (.tup (L.map D.int)), some (.ref du), v, none, none, none, none, none, none]) ∧ ∃ g, h' = hC ++ g) ⟨⟨none, rfl⟩, [], by simp⟩ (by simp) (fun i s h' _ inv => ?_) (fun i d s h' hd inv => ?_) fun s h' inv => ?_
  · obtain ⟨_, g, rfl⟩ := inv
    exact keep_at eC
  · obtain ⟨⟨v, rfl⟩, g, rfl⟩ := inv
    have hd : d = .tup (R.map D.int) := by
      match i, hd with
      | 0, hd => simpa using hd.symm
      | 1, hd => simpa using hd.symm
    subst hd
    have eE := keep_at (l := [O.lst (R.map D.int)]) (keep_at (l := g) eD)
    have eF : (hC ++ g ++ [O.lst (R.map D.int)])[(hC ++ g).length]? = some (.lst (R.map D.int)) := by simp
    simp
    have eF : (hC ++ g ++ [O.lst (R.map D.int)])[hC.length + g.length]? = some (.lst (R.map D.int)) := by rw [← List.length_append]; exact eF
    rw [← List.append_assoc] at *
    rw [eq_lst eF eE]
    simp
    refine lc_map (J := fun h2 => h2 = hC ++ g ++ [O.lst (R.map D.int)]) (v := fun _ => .bl true) (by simp) (by simp [hR]; omega) (fun d h2 hd inv => ?_) fun h2 inv => ?_
    · subst inv
      obtain ⟨x, hx, rfl⟩ := List.mem_map.mp hd
      simp
    · subst inv
      have e : (hC ++ g ++ [O.lst (R.map D.int)] ++ [O.lst (List.map (fun _ => D.bl true) (R.map D.int))])[(hC ++ g ++ [O.lst (R.map D.int)]).length]? = some (.lst ((List.replicate R.length true).map D.bl)) := by
        simp [Function.comp_def, List.map_const']
      rw [all_at e]
      simp
  · obtain ⟨⟨v, rfl⟩, g, rfl⟩ := inv
    have pq : powOk 10 30 = true := by
      unfold powOk
      rw [hid_eq]
      decide +kernel
    simp [pq]
    refine wpR_mono (dr _ n 999 pC.app (by decide) (by decide)) fun d h2 hd => ?_
    obtain ⟨r, rfl, r0, r1, p2, f2, len2⟩ := hd
    have eG := f2.old du _ hdu (keep_at (l := g) eD)
    simp
    refine for_seq (ds := L.map D.int) (fun i s h' => (∃ (m : Nat) (u : Option D) (Ls : List Int), s = [some (.ref n), some (.tup (L.map D.int)), some (.ref du), v, some (.ref m), u, none, none, none, none] ∧ h'[m]? = some (.lst (Ls.map D.int)) ∧ Ls.length = 5 + 3 * i) ∧ h'[du]? = some (.lst (R.map D.int))) ?_ (by simp; omega) (fun i d s h' hd inv => ?_) fun s h' inv => ?_
    · refine ⟨⟨h2.length, none, [0, -7, 1000, 1000000000000000000000000000000, 1 + r], rfl, by simp, rfl⟩, keep_at eG⟩
    · obtain ⟨⟨m, u, Ls, rfl, eM, lM⟩, eU⟩ := inv
      rw [List.getElem?_map] at hd
      obtain ⟨x, hx, rfl⟩ := map_inv hd
      have hi : i < L.length := (List.getElem?_eq_some_iff.mp hx).1
      have eN := keep_at (l := [O.lst [D.int x, D.int (x + 1), D.int (x - 1)]]) eM
      simp [eN, lM]
      refine ⟨by omega, ⟨Ls ++ [x, x + 1, x - 1], by simp, by simp [lM]; omega⟩, ?_⟩
      exact keep_at eU
    · obtain ⟨⟨m, u, Ls, rfl, eM, lM⟩, eU⟩ := inv
      simp [isLst_of eM]
      have hle : Ls.length < 1000000 := by rw [lM]; simp; omega
      refine for_lst (xs := Ls.map D.int) (fun i s h2 => (∃ u v' w, s = [some (.ref n), some (.tup (L.map D.int)), some (.ref du), v, some (.ref m), u, v', w, none, none]) ∧ ∃ g, h2 = h' ++ g) ⟨⟨u, none, none, rfl⟩, [], by simp⟩ (by simpa using hle) (fun i s h2 _ inv => ?_) (fun i d s h2 hd inv => ?_) fun s h2 inv => ?_
      · obtain ⟨_, g, rfl⟩ := inv
        exact keep_at eM
      · obtain ⟨⟨u, v', w, rfl⟩, g, rfl⟩ := inv
        rw [List.getElem?_map] at hd
        obtain ⟨t, ht, rfl⟩ := map_inv hd
        simp [mth_join]
        refine lc_signs (t := t) m1 (by simp) (by simp) (by decide) ?_
        have e : (h' ++ g ++ [O.lst ((L.map (sgn t)).map D.str)])[(h' ++ g).length]? = some (.lst ((L.map (sgn t)).map D.str)) := by simp
        rw [join_at e (sgn_fit t m1)]
        simp
        refine wpR_mono (sg _ L t hl m0 m1) fun d h3 hd => ?_
        obtain ⟨rfl, g3, rfl⟩ := hd
        simp
        refine wpR_mono (sg _ L t hl m0 m1) fun d h3 hd => ?_
        obtain ⟨rfl, g4, rfl⟩ := hd
        simp
      · obtain ⟨⟨u, v', w, rfl⟩, g, rfl⟩ := inv
        simp
        refine wpR_mono (rk _ L hl m0 m1) fun d h3 hd => ?_
        obtain ⟨rfl, g3, rfl⟩ := hd
        have e9 := keep_at (l := g ++ g3) eU
        rw [← hR]
        simp [e9, eq_tup]
end
end PyI
namespace Law
noncomputable section
open PySem PySem.Spec PyProof.Rows L2 PyI
def topS (i : Nat) : Stmt := PySem.Challenge.pw_lastpasses_k02_ranks_and_signs.main.body.getD i (.Pass ⟨0, 0, 0, 0⟩)
def d_is_integer : DefI := ⟨"is_integer", ["value", "low", "high"], ["value", "low", "high"], topS 7⟩
def d_is_height : DefI := ⟨"is_height", ["value"], ["value"], topS 8⟩
def d_check_row : DefI := ⟨"check_row", ["row"], ["row", "index", "height"], topS 9⟩
def d_ranks : DefI := ⟨"ranks", ["row"], ["row", "heights", "height"], topS 10⟩
def d_signs : DefI := ⟨"signs", ["row", "height"], ["row", "height", "person"], topS 11⟩
def d__law_cell : DefI := ⟨"_law_cell", ["_law_script", "_law_k"], ["_law_script", "_law_k", "_law_state", "_law_number"], topS 13⟩
def d__law_pool : DefI := ⟨"_law_pool", ["_law_number"], ["_law_number", "_law_digits"], topS 14⟩
def d__law_draw : DefI := ⟨"_law_draw", ["_law_pool_here", "_law_count"], ["_law_pool_here", "_law_count", "_law_state", "_law_digit"], topS 15⟩
def d__law_heights : DefI := ⟨"_law_heights", ["_law_pool_here", "_law_size"], ["_law_pool_here", "_law_size", "_law_mode", "_law_left", "_law_k"], topS 16⟩
def d__law_row : DefI := ⟨"_law_row", ["_law_pool_here", "_law_least", "_law_most"], ["_law_pool_here", "_law_least", "_law_most", "_law_k", "_law_left", "_law_found"], topS 17⟩
def d__law_right : DefI := ⟨"_law_right", ["_law_pool_here"], ["_law_pool_here", "_law_line", "_law_due", "_law_told", "_law_limits", "_law_person", "_law_limit", "_law_wanted", "_law_other", "_law_one"], topS 18⟩
def d_law : DefI := ⟨"law", ["_law_script"], ["_law_script", "_law_k"], topS 19⟩
def tT : List DefI := [d_is_integer, d_is_height, d_check_row, d_ranks, d_signs, d__law_cell, d__law_pool, d__law_draw, d__law_heights, d__law_row, d__law_right, d_law]
def tG : List (Str × GV) := [("is_integer", .fn 0 3 [(3, [], [0, 1, 2])]), ("is_height", .fn 1 1 [(1, [], [0])]), ("check_row", .fn 2 1 [(1, [], [0])]), ("ranks", .fn 3 1 [(1, [], [0]), (0, ["row"], [0])]), ("signs", .fn 4 2 [(2, [], [0, 1]), (0, ["height", "row"], [1, 0])]), ("_law_cell", .fn 5 2 [(2, [], [0, 1])]), ("_law_pool", .fn 6 1 [(1, [], [0])]), ("_law_draw", .fn 7 2 [(2, [], [0, 1])]), ("_law_heights", .fn 8 2 [(2, [], [0, 1])]), ("_law_row", .fn 9 3 [(3, [], [0, 1, 2])]), ("_law_right", .fn 10 1 [(1, [], [0])]), ("law", .fn 11 1 [(1, [], [0])]), ("MOST_PEOPLE", .con (.int 12)), ("MOST_HEIGHT", .con (.int 999))]
def tB : List Str := ["all", "range", "max", "min", "len", "abs", "tuple", "isinstance", "list", "int", "bool", "enumerate", "divmod", "sorted"]
end
end Law
namespace Law
noncomputable section
open PySem PySem.Spec PyProof.Rows L2 PyI
abbrev fs (m i : Nat) := Fs tG tB tT m i
theorem dk (m : Nat) : DrawOk (fs (m + 1) 7) := fun h n k p a b => by
  rw [fs, fs_step (d := d__law_draw) (b := h_draw) rfl rfl rfl]; exact draw_ok p a b
theorem ho (m : Nat) : HeightsOk (fs (m + 2) 8) := fun h n z p a b => by
  rw [fs, fs_step (d := d__law_heights) (b := h_heights (fs (m + 1) 7)) rfl rfl rfl]; exact heights_ok (dk m) p a b
theorem ro (m : Nat) : RowOk (fs (m + 3) 9) := fun h n lo hi p a b c => by
  rw [fs, fs_step (d := d__law_row) (b := h_row (fs (m + 2) 7) (fs (m + 2) 8)) rfl rfl rfl]; exact row_ok (dk (m + 1)) (ho m) p a b c
theorem io (m : Nat) : IntegerOk (fs (m + 1) 0) := fun h x a b => by
  rw [fs, fs_step (d := d_is_integer) (b := p_is_integer) rfl rfl rfl]; exact integer_ok
theorem he (m : Nat) : HeightOk (fs (m + 2) 1) := fun h x a b => by
  rw [fs, fs_step (d := d_is_height) (b := p_is_height (fs (m + 1) 0)) rfl rfl rfl]; exact height_ok (io m) a b
theorem ck (m : Nat) : CheckOk (fs (m + 3) 2) := fun h L a b c => by
  rw [fs, fs_step (d := d_check_row) (b := p_check_row (fs (m + 2) 1)) rfl rfl rfl]; exact check_ok (he m) a b c
theorem rk (m : Nat) : RanksOk (fs (m + 4) 3) := fun h L a b c => by
  rw [fs, fs_step (d := d_ranks) (b := p_ranks (fs (m + 3) 2)) rfl rfl rfl]; exact ranks_ok (ck m) a b c
theorem sg (m : Nat) : SignsOk (fs (m + 4) 4) := fun h L t a b c => by
  rw [fs, fs_step (d := d_signs) (b := p_signs (fs (m + 3) 2)) rfl rfl rfl]; exact signs_ok (ck m) a b c
theorem ce (m : Nat) : CellOk (fs (m + 1) 5) := fun h ns i a b => by
  rw [fs, fs_step (d := d__law_cell) (b := h_cell) rfl rfl rfl]; exact cell_ok a b
theorem po (m : Nat) : PoolOk (fs (m + 1) 6) := fun h i => by
  rw [fs, fs_step (d := d__law_pool) (b := h_pool) rfl rfl rfl]; exact pool_ok
theorem rt (m : Nat) : RightOk (fs (m + 5) 10) := fun h n p => by
  rw [fs, fs_step (d := d__law_right) (b := r02 (fs (m + 4) 7) (fs (m + 4) 9) (fs (m + 4) 3) (fs (m + 4) 4)) rfl rfl rfl]; exact right02 (dk (m + 3)) (ro (m + 1)) (rk m) (sg m) p
theorem says : Says (Fs tG tB tT 20 11) 63 := fun ns _ => by
  rw [fs_step (n := 19) (d := d_law) (b := h_law 8 (fs 19 10) (fs 19 6) (fs 19 5)) rfl rfl rfl]
  exact law_ok (rt 14) (po 18) (ce 18) (by decide) (by decide) ns
end
end Law
namespace Law
open PySem PySem.Spec PyProof.Rows L2 PyI
theorem sc_is_integer : FnScope d_is_integer.N d_is_integer.ps (defScope d_is_integer.st) := ⟨rfl, rfl, rfl, by decide +kernel, rfl, by decide +kernel, by decide +kernel⟩
theorem sc_is_height : FnScope d_is_height.N d_is_height.ps (defScope d_is_height.st) := ⟨rfl, rfl, rfl, by decide +kernel, rfl, by decide +kernel, by decide +kernel⟩
theorem sc_check_row : FnScope d_check_row.N d_check_row.ps (defScope d_check_row.st) := ⟨rfl, rfl, rfl, by decide +kernel, rfl, by decide +kernel, by decide +kernel⟩
theorem sc_ranks : FnScope d_ranks.N d_ranks.ps (defScope d_ranks.st) := ⟨rfl, rfl, rfl, by decide +kernel, rfl, by decide +kernel, by decide +kernel⟩
theorem sc_signs : FnScope d_signs.N d_signs.ps (defScope d_signs.st) := ⟨rfl, rfl, rfl, by decide +kernel, rfl, by decide +kernel, by decide +kernel⟩
theorem sc__law_cell : FnScope d__law_cell.N d__law_cell.ps (defScope d__law_cell.st) := ⟨rfl, rfl, rfl, by decide +kernel, rfl, by decide +kernel, by decide +kernel⟩
theorem sc__law_pool : FnScope d__law_pool.N d__law_pool.ps (defScope d__law_pool.st) := ⟨rfl, rfl, rfl, by decide +kernel, rfl, by decide +kernel, by decide +kernel⟩
theorem sc__law_draw : FnScope d__law_draw.N d__law_draw.ps (defScope d__law_draw.st) := ⟨rfl, rfl, rfl, by decide +kernel, rfl, by decide +kernel, by decide +kernel⟩
theorem sc__law_heights : FnScope d__law_heights.N d__law_heights.ps (defScope d__law_heights.st) := ⟨rfl, rfl, rfl, by decide +kernel, rfl, by decide +kernel, by decide +kernel⟩
theorem sc__law_row : FnScope d__law_row.N d__law_row.ps (defScope d__law_row.st) := ⟨rfl, rfl, rfl, by decide +kernel, rfl, by decide +kernel, by decide +kernel⟩
theorem sc__law_right : FnScope d__law_right.N d__law_right.ps (defScope d__law_right.st) := ⟨rfl, rfl, rfl, by decide +kernel, rfl, by decide +kernel, by decide +kernel⟩
theorem sc_law : FnScope d_law.N d_law.ps (defScope d_law.st) := ⟨rfl, rfl, rfl, by decide +kernel, rfl, by decide +kernel, by decide +kernel⟩
set_option maxHeartbeats 0 in
theorem all_mk {K : PySem.W.Frag} {h : Heap} {mg : Str → Option Value} {fa : Addr} (X : K.In h) (G : h.Ns mainGlobals mg) (hfa : mg "law" = some (.ref fa))
    {f0 : Addr} {oc0 kV0 dc0 pm0 cd0 ct0 : Value} {od0 an0 : Option Addr} {sl0 : Array (Option Value)}
    {f1 : Addr} {oc1 kV1 dc1 pm1 cd1 ct1 : Value} {od1 an1 : Option Addr} {sl1 : Array (Option Value)}
    {f2 : Addr} {oc2 kV2 dc2 pm2 cd2 ct2 : Value} {od2 an2 : Option Addr} {sl2 : Array (Option Value)}
    {f3 : Addr} {oc3 kV3 dc3 pm3 cd3 ct3 : Value} {od3 an3 : Option Addr} {sl3 : Array (Option Value)}
    {f4 : Addr} {oc4 kV4 dc4 pm4 cd4 ct4 : Value} {od4 an4 : Option Addr} {sl4 : Array (Option Value)}
    {f5 : Addr} {oc5 kV5 dc5 pm5 cd5 ct5 : Value} {od5 an5 : Option Addr} {sl5 : Array (Option Value)}
    {f6 : Addr} {oc6 kV6 dc6 pm6 cd6 ct6 : Value} {od6 an6 : Option Addr} {sl6 : Array (Option Value)}
    {f7 : Addr} {oc7 kV7 dc7 pm7 cd7 ct7 : Value} {od7 an7 : Option Addr} {sl7 : Array (Option Value)}
    {f8 : Addr} {oc8 kV8 dc8 pm8 cd8 ct8 : Value} {od8 an8 : Option Addr} {sl8 : Array (Option Value)}
    {f9 : Addr} {oc9 kV9 dc9 pm9 cd9 ct9 : Value} {od9 an9 : Option Addr} {sl9 : Array (Option Value)}
    {f10 : Addr} {oc10 kV10 dc10 pm10 cd10 ct10 : Value} {od10 an10 : Option Addr} {sl10 : Array (Option Value)}
    {f11 : Addr} {oc11 kV11 dc11 pm11 cd11 ct11 : Value} {od11 an11 : Option Addr} {sl11 : Array (Option Value)}
    {t0 : Tok}
    {t1 : Tok}
    (a0 : PySem.W.nsIn K mainGlobals "is_integer" = some (some (.ref f0)))
    (l0 : K.lookup f0 = some ⟨oc0, od0, .func (PySem.W.fnOf d_is_integer.name d_is_integer.name (defArgs d_is_integer.st) (defBody d_is_integer.st) (defScope d_is_integer.st) .none kV0 dc0 pm0 an0 cd0 ct0), sl0⟩)
    (c0 : PySem.W.codeIn K cd0 "is_integer" = true)
    (k0 : PySem.W.keepIn K (.ref f0) = true)
    (a1 : PySem.W.nsIn K mainGlobals "is_height" = some (some (.ref f1)))
    (l1 : K.lookup f1 = some ⟨oc1, od1, .func (PySem.W.fnOf d_is_height.name d_is_height.name (defArgs d_is_height.st) (defBody d_is_height.st) (defScope d_is_height.st) .none kV1 dc1 pm1 an1 cd1 ct1), sl1⟩)
    (c1 : PySem.W.codeIn K cd1 "is_height" = true)
    (k1 : PySem.W.keepIn K (.ref f1) = true)
    (a2 : PySem.W.nsIn K mainGlobals "check_row" = some (some (.ref f2)))
    (l2 : K.lookup f2 = some ⟨oc2, od2, .func (PySem.W.fnOf d_check_row.name d_check_row.name (defArgs d_check_row.st) (defBody d_check_row.st) (defScope d_check_row.st) .none kV2 dc2 pm2 an2 cd2 ct2), sl2⟩)
    (c2 : PySem.W.codeIn K cd2 "check_row" = true)
    (k2 : PySem.W.keepIn K (.ref f2) = true)
    (a3 : PySem.W.nsIn K mainGlobals "ranks" = some (some (.ref f3)))
    (l3 : K.lookup f3 = some ⟨oc3, od3, .func (PySem.W.fnOf d_ranks.name d_ranks.name (defArgs d_ranks.st) (defBody d_ranks.st) (defScope d_ranks.st) .none kV3 dc3 pm3 an3 cd3 ct3), sl3⟩)
    (c3 : PySem.W.codeIn K cd3 "ranks" = true)
    (k3 : PySem.W.keepIn K (.ref f3) = true)
    (a4 : PySem.W.nsIn K mainGlobals "signs" = some (some (.ref f4)))
    (l4 : K.lookup f4 = some ⟨oc4, od4, .func (PySem.W.fnOf d_signs.name d_signs.name (defArgs d_signs.st) (defBody d_signs.st) (defScope d_signs.st) .none kV4 dc4 pm4 an4 cd4 ct4), sl4⟩)
    (c4 : PySem.W.codeIn K cd4 "signs" = true)
    (k4 : PySem.W.keepIn K (.ref f4) = true)
    (a5 : PySem.W.nsIn K mainGlobals "_law_cell" = some (some (.ref f5)))
    (l5 : K.lookup f5 = some ⟨oc5, od5, .func (PySem.W.fnOf d__law_cell.name d__law_cell.name (defArgs d__law_cell.st) (defBody d__law_cell.st) (defScope d__law_cell.st) .none kV5 dc5 pm5 an5 cd5 ct5), sl5⟩)
    (c5 : PySem.W.codeIn K cd5 "_law_cell" = true)
    (k5 : PySem.W.keepIn K (.ref f5) = true)
    (a6 : PySem.W.nsIn K mainGlobals "_law_pool" = some (some (.ref f6)))
    (l6 : K.lookup f6 = some ⟨oc6, od6, .func (PySem.W.fnOf d__law_pool.name d__law_pool.name (defArgs d__law_pool.st) (defBody d__law_pool.st) (defScope d__law_pool.st) .none kV6 dc6 pm6 an6 cd6 ct6), sl6⟩)
    (c6 : PySem.W.codeIn K cd6 "_law_pool" = true)
    (k6 : PySem.W.keepIn K (.ref f6) = true)
    (a7 : PySem.W.nsIn K mainGlobals "_law_draw" = some (some (.ref f7)))
    (l7 : K.lookup f7 = some ⟨oc7, od7, .func (PySem.W.fnOf d__law_draw.name d__law_draw.name (defArgs d__law_draw.st) (defBody d__law_draw.st) (defScope d__law_draw.st) .none kV7 dc7 pm7 an7 cd7 ct7), sl7⟩)
    (c7 : PySem.W.codeIn K cd7 "_law_draw" = true)
    (k7 : PySem.W.keepIn K (.ref f7) = true)
    (a8 : PySem.W.nsIn K mainGlobals "_law_heights" = some (some (.ref f8)))
    (l8 : K.lookup f8 = some ⟨oc8, od8, .func (PySem.W.fnOf d__law_heights.name d__law_heights.name (defArgs d__law_heights.st) (defBody d__law_heights.st) (defScope d__law_heights.st) .none kV8 dc8 pm8 an8 cd8 ct8), sl8⟩)
    (c8 : PySem.W.codeIn K cd8 "_law_heights" = true)
    (k8 : PySem.W.keepIn K (.ref f8) = true)
    (a9 : PySem.W.nsIn K mainGlobals "_law_row" = some (some (.ref f9)))
    (l9 : K.lookup f9 = some ⟨oc9, od9, .func (PySem.W.fnOf d__law_row.name d__law_row.name (defArgs d__law_row.st) (defBody d__law_row.st) (defScope d__law_row.st) .none kV9 dc9 pm9 an9 cd9 ct9), sl9⟩)
    (c9 : PySem.W.codeIn K cd9 "_law_row" = true)
    (k9 : PySem.W.keepIn K (.ref f9) = true)
    (a10 : PySem.W.nsIn K mainGlobals "_law_right" = some (some (.ref f10)))
    (l10 : K.lookup f10 = some ⟨oc10, od10, .func (PySem.W.fnOf d__law_right.name d__law_right.name (defArgs d__law_right.st) (defBody d__law_right.st) (defScope d__law_right.st) .none kV10 dc10 pm10 an10 cd10 ct10), sl10⟩)
    (c10 : PySem.W.codeIn K cd10 "_law_right" = true)
    (k10 : PySem.W.keepIn K (.ref f10) = true)
    (a11 : PySem.W.nsIn K mainGlobals "law" = some (some (.ref f11)))
    (l11 : K.lookup f11 = some ⟨oc11, od11, .func (PySem.W.fnOf d_law.name d_law.name (defArgs d_law.st) (defBody d_law.st) (defScope d_law.st) .none kV11 dc11 pm11 an11 cd11 ct11), sl11⟩)
    (c11 : PySem.W.codeIn K cd11 "law" = true)
    (k11 : PySem.W.keepIn K (.ref f11) = true)
    (m0 : PySem.W.nsIn K mainGlobals "MOST_PEOPLE" = some (some (.int 12 t0)))
    (m1 : PySem.W.nsIn K mainGlobals "MOST_HEIGHT" = some (some (.int 999 t1)))
    (z0 : PySem.W.nsIn K mainGlobals "all" = some none)
    (z1 : PySem.W.nsIn K mainGlobals "range" = some none)
    (z2 : PySem.W.nsIn K mainGlobals "max" = some none)
    (z3 : PySem.W.nsIn K mainGlobals "min" = some none)
    (z4 : PySem.W.nsIn K mainGlobals "len" = some none)
    (z5 : PySem.W.nsIn K mainGlobals "abs" = some none)
    (z6 : PySem.W.nsIn K mainGlobals "tuple" = some none)
    (z7 : PySem.W.nsIn K mainGlobals "isinstance" = some none)
    (z8 : PySem.W.nsIn K mainGlobals "list" = some none)
    (z9 : PySem.W.nsIn K mainGlobals "int" = some none)
    (z10 : PySem.W.nsIn K mainGlobals "bool" = some none)
    (z11 : PySem.W.nsIn K mainGlobals "enumerate" = some none)
    (z12 : PySem.W.nsIn K mainGlobals "divmod" = some none)
    (z13 : PySem.W.nsIn K mainGlobals "sorted" = some none) :
    ∃ fd, (∀ (s : Shared) (u : Value), BindsTo s fd ⟨[u], []⟩ [("_law_script", u)]) ∧ Fun K d_law.name d_law.name d_law.st fa fd ∧ Txt K mg tG tB tT := by
  have e := hfa.symm.trans (PySem.W.mg_of X G a11)
  cases e
  have F0 : Fun K d_is_integer.name d_is_integer.name d_is_integer.st f0 _ := fun_mk l0 c0 k0
  have F1 : Fun K d_is_height.name d_is_height.name d_is_height.st f1 _ := fun_mk l1 c1 k1
  have F2 : Fun K d_check_row.name d_check_row.name d_check_row.st f2 _ := fun_mk l2 c2 k2
  have F3 : Fun K d_ranks.name d_ranks.name d_ranks.st f3 _ := fun_mk l3 c3 k3
  have F4 : Fun K d_signs.name d_signs.name d_signs.st f4 _ := fun_mk l4 c4 k4
  have F5 : Fun K d__law_cell.name d__law_cell.name d__law_cell.st f5 _ := fun_mk l5 c5 k5
  have F6 : Fun K d__law_pool.name d__law_pool.name d__law_pool.st f6 _ := fun_mk l6 c6 k6
  have F7 : Fun K d__law_draw.name d__law_draw.name d__law_draw.st f7 _ := fun_mk l7 c7 k7
  have F8 : Fun K d__law_heights.name d__law_heights.name d__law_heights.st f8 _ := fun_mk l8 c8 k8
  have F9 : Fun K d__law_row.name d__law_row.name d__law_row.st f9 _ := fun_mk l9 c9 k9
  have F10 : Fun K d__law_right.name d__law_right.name d__law_right.st f10 _ := fun_mk l10 c10 k10
  have F11 : Fun K d_law.name d_law.name d_law.st fa _ := fun_mk l11 c11 k11
  have en : Entries K mg tT tG := ⟨⟨d_is_integer, rfl, rfl, _, _, F0, PySem.W.mg_of X G a0, (sh_cons (fun s us ws _ h1 h2 => match us, ws, h1, h2 with | [u0, u1, u2], [], _, _ => ⟨[u0, u1, u2], rfl, rfl, .of_eq rfl⟩) sh_nil)⟩,
    ⟨d_is_height, rfl, rfl, _, _, F1, PySem.W.mg_of X G a1, (sh_cons (fun s us ws _ h1 h2 => match us, ws, h1, h2 with | [u0], [], _, _ => ⟨[u0], rfl, rfl, .of_eq rfl⟩) sh_nil)⟩,
    ⟨d_check_row, rfl, rfl, _, _, F2, PySem.W.mg_of X G a2, (sh_cons (fun s us ws _ h1 h2 => match us, ws, h1, h2 with | [u0], [], _, _ => ⟨[u0], rfl, rfl, .of_eq rfl⟩) sh_nil)⟩,
    ⟨d_ranks, rfl, rfl, _, _, F3, PySem.W.mg_of X G a3, (sh_cons (fun s us ws _ h1 h2 => match us, ws, h1, h2 with | [u0], [], _, _ => ⟨[u0], rfl, rfl, .of_eq rfl⟩) (sh_cons (fun s us ws _ h1 h2 => match us, ws, h1, h2 with | [], [w0], _, _ => ⟨[w0], rfl, rfl, .of_eq rfl⟩) sh_nil))⟩,
    ⟨d_signs, rfl, rfl, _, _, F4, PySem.W.mg_of X G a4, (sh_cons (fun s us ws _ h1 h2 => match us, ws, h1, h2 with | [u0, u1], [], _, _ => ⟨[u0, u1], rfl, rfl, .of_eq rfl⟩) (sh_cons (fun s us ws _ h1 h2 => match us, ws, h1, h2 with | [], [w0, w1], _, _ => ⟨[w1, w0], rfl, rfl, .of_eq rfl⟩) sh_nil))⟩,
    ⟨d__law_cell, rfl, rfl, _, _, F5, PySem.W.mg_of X G a5, (sh_cons (fun s us ws _ h1 h2 => match us, ws, h1, h2 with | [u0, u1], [], _, _ => ⟨[u0, u1], rfl, rfl, .of_eq rfl⟩) sh_nil)⟩,
    ⟨d__law_pool, rfl, rfl, _, _, F6, PySem.W.mg_of X G a6, (sh_cons (fun s us ws _ h1 h2 => match us, ws, h1, h2 with | [u0], [], _, _ => ⟨[u0], rfl, rfl, .of_eq rfl⟩) sh_nil)⟩,
    ⟨d__law_draw, rfl, rfl, _, _, F7, PySem.W.mg_of X G a7, (sh_cons (fun s us ws _ h1 h2 => match us, ws, h1, h2 with | [u0, u1], [], _, _ => ⟨[u0, u1], rfl, rfl, .of_eq rfl⟩) sh_nil)⟩,
    ⟨d__law_heights, rfl, rfl, _, _, F8, PySem.W.mg_of X G a8, (sh_cons (fun s us ws _ h1 h2 => match us, ws, h1, h2 with | [u0, u1], [], _, _ => ⟨[u0, u1], rfl, rfl, .of_eq rfl⟩) sh_nil)⟩,
    ⟨d__law_row, rfl, rfl, _, _, F9, PySem.W.mg_of X G a9, (sh_cons (fun s us ws _ h1 h2 => match us, ws, h1, h2 with | [u0, u1, u2], [], _, _ => ⟨[u0, u1, u2], rfl, rfl, .of_eq rfl⟩) sh_nil)⟩,
    ⟨d__law_right, rfl, rfl, _, _, F10, PySem.W.mg_of X G a10, (sh_cons (fun s us ws _ h1 h2 => match us, ws, h1, h2 with | [u0], [], _, _ => ⟨[u0], rfl, rfl, .of_eq rfl⟩) sh_nil)⟩,
    ⟨d_law, rfl, rfl, _, _, F11, PySem.W.mg_of X G a11, (sh_cons (fun s us ws _ h1 h2 => match us, ws, h1, h2 with | [u0], [], _, _ => ⟨[u0], rfl, rfl, .of_eq rfl⟩) sh_nil)⟩,
    con_int (PySem.W.mg_of X G m0),
    con_int (PySem.W.mg_of X G m1), trivial⟩
  have df : DefsOk K tT := ⟨⟨_, _, F0, sc_is_integer, by decide +kernel⟩, ⟨_, _, F1, sc_is_height, by decide +kernel⟩, ⟨_, _, F2, sc_check_row, by decide +kernel⟩, ⟨_, _, F3, sc_ranks, by decide +kernel⟩, ⟨_, _, F4, sc_signs, by decide +kernel⟩, ⟨_, _, F5, sc__law_cell, by decide +kernel⟩, ⟨_, _, F6, sc__law_pool, by decide +kernel⟩, ⟨_, _, F7, sc__law_draw, by decide +kernel⟩, ⟨_, _, F8, sc__law_heights, by decide +kernel⟩, ⟨_, _, F9, sc__law_row, by decide +kernel⟩, ⟨_, _, F10, sc__law_right, by decide +kernel⟩, ⟨_, _, F11, sc_law, by decide +kernel⟩, trivial⟩
  exact ⟨_, fun s u => .of_eq rfl, F11, txt_of (blt_cons (PySem.W.mg_none_of X G z0) (blt_cons (PySem.W.mg_none_of X G z1) (blt_cons (PySem.W.mg_none_of X G z2) (blt_cons (PySem.W.mg_none_of X G z3) (blt_cons (PySem.W.mg_none_of X G z4) (blt_cons (PySem.W.mg_none_of X G z5) (blt_cons (PySem.W.mg_none_of X G z6) (blt_cons (PySem.W.mg_none_of X G z7) (blt_cons (PySem.W.mg_none_of X G z8) (blt_cons (PySem.W.mg_none_of X G z9) (blt_cons (PySem.W.mg_none_of X G z10) (blt_cons (PySem.W.mg_none_of X G z11) (blt_cons (PySem.W.mg_none_of X G z12) (blt_cons (PySem.W.mg_none_of X G z13) blt_nil)))))))))))))) en df⟩
end Law
open PySem PySem.W PyProof.Rows in
set_option maxRecDepth 100000 in
set_option maxHeartbeats 0 in
theorem PySem.Challenge.cw_lastpasses_k02_ranks_and_signs_holds : PySem.Challenge.rw_lastpasses_k02_ranks_and_signs.Holds := by
  w_on; o_law; k_head; (case hw => w_witness2)
  k_fill
  refine PyI.law_M (l := PySem.Challenge.rw_lastpasses_k02_ranks_and_signs) (n := 63) (k := 20) (i := 11) (di := Law.d_law) (G := Law.tG) (B := Law.tB) (T := Law.tT) rfl (by decide) rfl ⟨rfl, by decide, by decide⟩ (fun w h Y => PySem.W.kIn_of Y) rfl rfl Law.says ?F
  case F =>
    intro w mg fa h KX G hmg
    refine' Law.all_mk KX G hmg ?a0 ?l0 ?c0 ?k0 ?a1 ?l1 ?c1 ?k1 ?a2 ?l2 ?c2 ?k2 ?a3 ?l3 ?c3 ?k3 ?a4 ?l4 ?c4 ?k4 ?a5 ?l5 ?c5 ?k5 ?a6 ?l6 ?c6 ?k6 ?a7 ?l7 ?c7 ?k7 ?a8 ?l8 ?c8 ?k8 ?a9 ?l9 ?c9 ?k9 ?a10 ?l10 ?c10 ?k10 ?a11 ?l11 ?c11 ?k11 ?m0 ?m1 ?z0 ?z1 ?z2 ?z3 ?z4 ?z5 ?z6 ?z7 ?z8 ?z9 ?z10 ?z11 ?z12 ?z13
    (case a0 => k_is)
    (case l0 => k_is)
    (case c0 => k_is)
    (case k0 => k_is)
    (case a1 => k_is)
    (case l1 => k_is)
    (case c1 => k_is)
    (case k1 => k_is)
    (case a2 => k_is)
    (case l2 => k_is)
    (case c2 => k_is)
    (case k2 => k_is)
    (case a3 => k_is)
    (case l3 => k_is)
    (case c3 => k_is)
    (case k3 => k_is)
    (case a4 => k_is)
    (case l4 => k_is)
    (case c4 => k_is)
    (case k4 => k_is)
    (case a5 => k_is)
    (case l5 => k_is)
    (case c5 => k_is)
    (case k5 => k_is)
    (case a6 => k_is)
    (case l6 => k_is)
    (case c6 => k_is)
    (case k6 => k_is)
    (case a7 => k_is)
    (case l7 => k_is)
    (case c7 => k_is)
    (case k7 => k_is)
    (case a8 => k_is)
    (case l8 => k_is)
    (case c8 => k_is)
    (case k8 => k_is)
    (case a9 => k_is)
    (case l9 => k_is)
    (case c9 => k_is)
    (case k9 => k_is)
    (case a10 => k_is)
    (case l10 => k_is)
    (case c10 => k_is)
    (case k10 => k_is)
    (case a11 => k_is)
    (case l11 => k_is)
    (case c11 => k_is)
    (case k11 => k_is)
    (case m0 => k_is)
    (case m1 => k_is)
    (case z0 => k_is)
    (case z1 => k_is)
    (case z2 => k_is)
    (case z3 => k_is)
    (case z4 => k_is)
    (case z5 => k_is)
    (case z6 => k_is)
    (case z7 => k_is)
    (case z8 => k_is)
    (case z9 => k_is)
    (case z10 => k_is)
    (case z11 => k_is)
    (case z12 => k_is)
    (case z13 => k_is)

