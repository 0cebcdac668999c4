import PyProof.Rows.All
import HandS.Comp
import HandS.Exc
import HandS.ExcOwn
import HandS.Words
import HandS.Wide
import HandS.Style
import HandS.Text
import HandS.TupAny
import HandS.TupMul
import HandS.Deep
import HandS.List
import HandS.SortInts
import HandS.IsInst
import HandS.RaiseMore
import HandS.SetFor
import PyProof.ReprRoads
import PyProof.TupleOfSeq
import PyProof.ListStr
import HandS.SortKw
import KE.SortData
import KE.SortKeyHeap
import HandS.ExcValue
import HandS.WideBits
import HandS.StrMore
import KE.GoesMore
import HandS.Iter
import HandS.Rev
import HandS.Zip
import HandS.RevRange
import HandS.Walk
import KE.GoesEnum
import KE.GoesZip
import HandS.Conv
import HandS.TryOnly
import PyProof.WalksMore
import PyProof.CollectIter
import PyProof.MakeMany
import HandS.WordsExc
import HandS.Defaults
import HandS.Ends
import HandS.Strs
import HandS.Dict
import HandS.Flow
import PyProof.StrOps2
import PyProof.SeqRoads
import PyProof.StrBlock2
import PySem.Challenge.RW_lastpasses_k01_rows_told
set_option Elab.async false
set_option linter.all false
set_option maxRecDepth 100000
set_option maxHeartbeats 0
-- PyA
/-! PyA: data, the list-heap, the relation to HandS' abstract heap, results, readings of mirrors -/
namespace PyI
open PySem PySem.Spec PyProof.Rows L2

inductive D where
  | non | bl (b : Bool) | int (i : Int) | str (x : Str) | tup (xs : List D) | scr (ns : List Int) | rng (lo hi : Int) | ty (n : String) | ref (n : Nat)
  deriving Inhabited
inductive O where
  | lst (xs : List D) | dic (kvs : List (D × D))
  deriving Inhabited
abbrev DH := List O
abbrev DS := List (Option D)
structure Exn where
  cls : Nat
  fs : List (Str × D)
inductive Res (α : Type) where
  | ok (a : α) (h : DH) | exc (x : Exn) (h : DH) | no
def Res.bind {α β : Type} : Res α → (α → DH → Res β) → Res β
  | .ok a h, f => f a h
  | .exc x h, _ => .exc x h
  | .no, _ => .no
inductive SR where
  | nx (s : DS) (h : DH) | rt (d : D) (h : DH) | bk (s : DS) (h : DH) | ct (s : DS) (h : DH) | ex (x : Exn) (s : DS) (h : DH) | no
def bindS {α : Type} : Res α → DS → (α → DH → SR) → SR
  | .ok a h, _, f => f a h
  | .exc x h, s, _ => .ex x s h
  | .no, _, _ => .no
abbrev ME := DS → DH → Res D
abbrev MT := DS → DH → Res Bool
abbrev MA := DS → DH → Res (List D)
abbrev MS := DS → DH → SR

@[simp] theorem bind_ok {α β : Type} (a : α) (h : DH) (f : α → DH → Res β) : (Res.ok a h).bind f = f a h := rfl
@[simp] theorem bind_exc {α β : Type} (x : Exn) (h : DH) (f : α → DH → Res β) : (Res.exc x h).bind f = .exc x h := rfl
@[simp] theorem bind_no {α β : Type} (f : α → DH → Res β) : (Res.no).bind f = .no := rfl
@[simp] theorem bindS_ok {α : Type} (a : α) (h : DH) (s : DS) (f : α → DH → SR) : bindS (.ok a h) s f = f a h := rfl
@[simp] theorem bindS_exc {α : Type} (x : Exn) (h : DH) (s : DS) (f : α → DH → SR) : bindS (.exc x h) s f = .ex x s h := rfl
@[simp] theorem bindS_no {α : Type} (s : DS) (f : α → DH → SR) : bindS .no s f = .no := rfl

/-- a list that nobody changes -/
def SqF (K : PySem.W.Frag) (H : Hp) (a : Addr) (xs : List V) : Prop :=
  (∃ o, H a = some (.frz o (.lst xs))) ∨
    ∃ (o : Obj) (its : Array Value) (n : Nat), K.lookup a = some o ∧ o.cls = .type "list" ∧ o.dict = none ∧ o.data = .seq its n ∧ its.size ≤ sizeLine ∧ Vals xs its.toList
theorem SqF.l {K : PySem.W.Frag} {H : Hp} {a : Addr} {xs : List V} (h : SqF K H a xs) : SqL K H a xs := by
  rcases h with ⟨o, h⟩ | h
  · exact .inl (.inr ⟨o, h⟩)
  · exact .inr h

mutual
inductive DRel (K : PySem.W.Frag) (io : List Addr) (H : Hp) : V → D → Prop
  | non : DRel K io H .non .non
  | bl (b : Bool) : DRel K io H (.bl b) (.bl b)
  | int (i : Int) : DRel K io H (.int i) (.int i)
  | str (x : Str) : DRel K io H (.str x) (.str x)
  | ty (n : String) : DRel K io H (.ty n) (.ty n)
  | tup {a : Addr} {xs : List V} {ds : List D} : SqT K H a xs → DRels K io H xs ds → DRel K io H (.ref a) (.tup ds)
  | scr {a : Addr} {ns : List Int} : SqF K H a (ns.map V.int) → DRel K io H (.ref a) (.scr ns)
  | rng {a : Addr} {lo hi : Int} : H a = some (.rng lo hi) → DRel K io H (.ref a) (.rng lo hi)
  | ref {a : Addr} {n : Nat} : io[n]? = some a → DRel K io H (.ref a) (.ref n)
inductive DRels (K : PySem.W.Frag) (io : List Addr) (H : Hp) : List V → List D → Prop
  | nil : DRels K io H [] []
  | cons {v : V} {vs : List V} {d : D} {ds : List D} : DRel K io H v d → DRels K io H vs ds → DRels K io H (v :: vs) (d :: ds)
end

structure Step (K : PySem.W.Frag) (io : List Addr) (H : Hp) (jo : List Addr) (H' : Hp) : Prop where
  pre : ∀ (n : Nat) (a : Addr), io[n]? = some a → jo[n]? = some a
  tup : ∀ a xs, SqT K H a xs → SqT K H' a xs
  scr : ∀ a xs, SqF K H a xs → SqF K H' a xs
  rng : ∀ a lo hi, H a = some (.rng lo hi) → H' a = some (.rng lo hi)
  oth : ∀ a o, H a = some o → a ∉ io → H' a = some o
  new : ∀ a, a ∈ jo → a ∈ io ∨ H a = none

section
variable {K : PySem.W.Frag} {io jo ko : List Addr} {H H' H2 : Hp}
theorem Step.refl : Step K io H io H := ⟨fun _ _ h => h, fun _ _ h => h, fun _ _ h => h, fun _ _ _ h => h, fun _ _ h _ => h, fun _ h => .inl h⟩
theorem Step.trans (s : Step K io H jo H') (t : Step K jo H' ko H2) : Step K io H ko H2 where
  pre := fun n a h => t.pre n a (s.pre n a h)
  tup := fun a xs h => t.tup a xs (s.tup a xs h)
  scr := fun a xs h => t.scr a xs (s.scr a xs h)
  rng := fun a lo hi h => t.rng a lo hi (s.rng a lo hi h)
  oth := fun a o h n => t.oth a o (s.oth a o h n) fun m => by
    rcases s.new a m with q | q
    · exact n q
    · rw [h] at q; cases q
  new := fun a m => by
    rcases t.new a m with q | q
    · exact s.new a q
    · by_cases n : a ∈ io
      · exact .inl n
      · refine .inr ?_
        cases e : H a with
        | none => rfl
        | some o => rw [s.oth a o e n] at q; cases q
mutual
theorem DRel.mono (s : Step K io H jo H') : ∀ {v : V} {d : D}, DRel K io H v d → DRel K jo H' v d
  | _, _, .non => .non
  | _, _, .bl b => .bl b
  | _, _, .int i => .int i
  | _, _, .str x => .str x
  | _, _, .ty n => .ty n
  | _, _, .tup h r => .tup (s.tup _ _ h) (DRels.mono s r)
  | _, _, .scr h => .scr (s.scr _ _ h)
  | _, _, .rng h => .rng (s.rng _ _ _ h)
  | _, _, .ref h => .ref (s.pre _ _ h)
theorem DRels.mono (s : Step K io H jo H') : ∀ {vs : List V} {ds : List D}, DRels K io H vs ds → DRels K jo H' vs ds
  | _, _, .nil => .nil
  | _, _, .cons h r => .cons (DRel.mono s h) (DRels.mono s r)
end
theorem DRels.length : ∀ {vs : List V} {ds : List D}, DRels K io H vs ds → vs.length = ds.length
  | _, _, .nil => rfl
  | _, _, .cons _ r => by simp [DRels.length r]
theorem DRels.append : ∀ {vs ws : List V} {ds es : List D}, DRels K io H vs ds → DRels K io H ws es → DRels K io H (vs ++ ws) (ds ++ es)
  | _, _, _, _, .nil, s => s
  | _, _, _, _, .cons h r, s => .cons h (DRels.append r s)
theorem DRels.get : ∀ {vs : List V} {ds : List D} {i : Nat} {d : D}, DRels K io H vs ds → ds[i]? = some d → ∃ v, vs[i]? = some v ∧ DRel K io H v d
  | _, _, _, _, .nil, e => by simp at e
  | _, _, 0, _, .cons h _, e => by simp at e; subst e; exact ⟨_, rfl, h⟩
  | _, _, i + 1, d, .cons _ r, e => by
    obtain ⟨v, h1, h2⟩ := DRels.get (i := i) (d := d) r (by simpa using e)
    exact ⟨v, by simpa using h1, h2⟩
theorem DRels.getV : ∀ {vs : List V} {ds : List D} {i : Nat} {v : V}, DRels K io H vs ds → vs[i]? = some v → ∃ d, ds[i]? = some d ∧ DRel K io H v d
  | _, _, _, _, .nil, e => by simp at e
  | _, _, 0, _, .cons h _, e => by simp at e; subst e; exact ⟨_, rfl, h⟩
  | _, _, i + 1, v, .cons _ r, e => by
    obtain ⟨d, h1, h2⟩ := DRels.getV (i := i) (v := v) r (by simpa using e)
    exact ⟨d, by simpa using h1, h2⟩
theorem DRels.set {v : V} {d : D} (h : DRel K io H v d) : ∀ {vs : List V} {ds : List D} (i : Nat), DRels K io H vs ds → DRels K io H (vs.set i v) (ds.set i d)
  | _, _, _, .nil => .nil
  | _, _, 0, .cons _ t => .cons h t
  | _, _, i + 1, .cons q t => .cons q (DRels.set h i t)
theorem DRels.take : ∀ {vs : List V} {ds : List D} (n : Nat), DRels K io H vs ds → DRels K io H (vs.take n) (ds.take n)
  | _, _, 0, _ => .nil
  | _, _, _ + 1, .nil => .nil
  | _, _, n + 1, .cons r t => .cons r (DRels.take n t)
theorem DRels.drop : ∀ {vs : List V} {ds : List D} (n : Nat), DRels K io H vs ds → DRels K io H (vs.drop n) (ds.drop n)
  | _, _, 0, r => r
  | _, _, _ + 1, .nil => .nil
  | _, _, n + 1, .cons _ t => DRels.drop n t
theorem DRels.rev : ∀ {vs : List V} {ds : List D}, DRels K io H vs ds → DRels K io H vs.reverse ds.reverse
  | _, _, .nil => .nil
  | _, _, .cons r t => by
    rw [List.reverse_cons, List.reverse_cons]
    exact DRels.append (DRels.rev t) (.cons r .nil)
theorem DRels.eraseIdx : ∀ {vs : List V} {ds : List D} (n : Nat), DRels K io H vs ds → DRels K io H (vs.eraseIdx n) (ds.eraseIdx n)
  | _, _, _, .nil => .nil
  | _, _, 0, .cons _ t => t
  | _, _, n + 1, .cons r t => .cons r (DRels.eraseIdx n t)
end

def DKey : Key → D → Prop
  | .inl i, d => d = .int i
  | .inr x, d => d = .str x
def ORel (K : PySem.W.Frag) (io : List Addr) (H : Hp) (a : Addr) : O → Prop
  | .lst ds => ∃ xs, H a = some (.lst xs) ∧ DRels K io H xs ds
  | .dic kvs => ∃ ks, H a = some (.dK ks) ∧ Paired (fun (p : Key × V) (q : D × D) => DKey p.1 q.1 ∧ DRel K io H p.2 q.2) ks kvs
structure R (K : PySem.W.Frag) (io : List Addr) (h : DH) (H : Hp) : Prop where
  len : io.length = h.length
  inj : io.Nodup
  obj : ∀ (n : Nat) (o : O), h[n]? = some o → ∃ a, io[n]? = some a ∧ ORel K io H a o

theorem pairedMono {K : PySem.W.Frag} {io jo : List Addr} {H H' : Hp} (s : Step K io H jo H') : ∀ {ks : List (Key × V)} {kvs : List (D × D)},
    Paired (fun (p : Key × V) (q : D × D) => DKey p.1 q.1 ∧ DRel K io H p.2 q.2) ks kvs → Paired (fun (p : Key × V) (q : D × D) => DKey p.1 q.1 ∧ DRel K jo H' p.2 q.2) ks kvs
  | _, _, .nil => .nil
  | _, _, .cons r t => .cons ⟨r.1, DRel.mono s r.2⟩ (pairedMono s t)
section
variable {K : PySem.W.Frag} {io : List Addr} {h : DH} {H : Hp} {p a : Addr} {o : HO}
theorem ORel.get {x : O} (r : ORel K io H a x) : (∃ xs, H a = some (.lst xs)) ∨ ∃ ks, H a = some (.dK ks) := by
  cases x with
  | lst ds => obtain ⟨xs, e, _⟩ := r; exact .inl ⟨xs, e⟩
  | dic kvs => obtain ⟨ks, e, _⟩ := r; exact .inr ⟨ks, e⟩
theorem ORel.mono {jo : List Addr} {H' : Hp} {x : O} (s : Step K io H jo H') (e : H' a = H a) (r : ORel K io H a x) : ORel K jo H' a x := by
  cases x with
  | lst ds => obtain ⟨xs, q, t⟩ := r; exact ⟨xs, e.trans q, DRels.mono s t⟩
  | dic kvs => obtain ⟨ks, q, t⟩ := r; exact ⟨ks, e.trans q, pairedMono s t⟩
theorem R.at (r : R K io h H) {n : Nat} (e : io[n]? = some a) : ∃ x, h[n]? = some x ∧ ORel K io H a x := by
  have hn : n < io.length := (List.getElem?_eq_some_iff.mp e).1
  have hn' : n < h.length := by rw [← r.len]; exact hn
  obtain ⟨b, e2, q⟩ := r.obj n _ (List.getElem?_eq_getElem hn')
  rw [e] at e2; cases e2
  exact ⟨_, List.getElem?_eq_getElem hn', q⟩
theorem R.isMut (r : R K io h H) (m : a ∈ io) : (∃ xs, H a = some (.lst xs)) ∨ ∃ ks, H a = some (.dK ks) := by
  obtain ⟨n, e⟩ := List.mem_iff_getElem?.mp m
  obtain ⟨x, _, q⟩ := r.at e
  exact q.get
theorem R.fresh (r : R K io h H) (n : H p = none) : p ∉ io := fun m => by
  rcases r.isMut m with ⟨xs, e⟩ | ⟨ks, e⟩ <;> (rw [n] at e; cases e)
theorem Step.put (hp : H p = none) : Step K io H io (upd H p o) where
  pre := fun _ _ h => h
  tup := fun a xs h => by
    rcases h with (h | ⟨u, h⟩) | h
    · exact .inl (.inl (by rw [upd_ne (ne_of_none h hp)]; exact h))
    · exact .inl (.inr ⟨u, by rw [upd_ne (ne_of_none h hp)]; exact h⟩)
    · exact .inr h
  scr := fun a xs h => by
    rcases h with ⟨u, h⟩ | h
    · exact .inl ⟨u, by rw [upd_ne (ne_of_none h hp)]; exact h⟩
    · exact .inr h
  rng := fun a lo hi h => by rw [upd_ne (ne_of_none h hp)]; exact h
  oth := fun a u h _ => by rw [upd_ne (ne_of_none h hp)]; exact h
  new := fun _ m => .inl m
theorem Step.grow (hp : H p = none) (s : Step K io H io (upd H p o)) : Step K io H (io ++ [p]) (upd H p o) where
  pre := fun n a e => by rw [List.getElem?_append_left (List.getElem?_eq_some_iff.mp e).1]; exact e
  tup := s.tup
  scr := s.scr
  rng := s.rng
  oth := s.oth
  new := fun a m => by
    rcases List.mem_append.mp m with q | q
    · exact .inl q
    · rw [List.mem_singleton] at q; subst q; exact .inr hp
theorem R.put (r : R K io h H) (hp : H p = none) : R K io h (upd H p o) := ⟨r.len, r.inj, fun n x e => by
  obtain ⟨b, e2, q⟩ := r.obj n x e
  refine ⟨b, e2, q.mono (Step.put hp) (upd_ne fun z => ?_)⟩
  subst z
  exact r.fresh hp (List.mem_of_getElem? e2)⟩
/-- any heap in which a step leads, the objects of io as they stand -/
theorem R.step {H' : Hp} (r : R K io h H) (s : Step K io H io H') (k : ∀ a, a ∈ io → H' a = H a) : R K io h H' := ⟨r.len, r.inj, fun n x e => by
  obtain ⟨b, e2, q⟩ := r.obj n x e
  exact ⟨b, e2, q.mono s (k b (List.mem_of_getElem? e2))⟩⟩
theorem R.grow {x : O} (r : R K io h H) (hp : H p = none) (q : ORel K (io ++ [p]) (upd H p o) p x) : R K (io ++ [p]) (h ++ [x]) (upd H p o) where
  len := by rw [List.length_append, List.length_append, r.len]; rfl
  inj := by
    rw [List.nodup_append]
    refine ⟨r.inj, by simp, fun a ha b hb => ?_⟩
    rw [List.mem_singleton] at hb
    subst hb
    intro z
    subst z
    exact r.fresh hp ha
  obj := fun n y e => by
    by_cases hn : n < h.length
    · rw [List.getElem?_append_left hn] at e
      obtain ⟨b, e2, t⟩ := r.obj n y e
      refine ⟨b, by rw [List.getElem?_append_left (by rw [r.len]; exact hn)]; exact e2, t.mono (Step.grow hp (Step.put hp)) (upd_ne fun z => ?_)⟩
      subst z
      exact r.fresh hp (List.mem_of_getElem? e2)
    · rw [List.getElem?_append_right (Nat.le_of_not_lt hn)] at e
      have hz : n - h.length = 0 := by
        have := (List.getElem?_eq_some_iff.mp e).1
        simp at this
        omega
      rw [hz] at e
      simp at e
      subst e
      refine ⟨p, ?_, q⟩
      have : n = io.length := by rw [r.len]; omega
      subst this
      simp
/-- a tracked object of io changes -/
theorem Step.write (m : a ∈ io) (hm : (∃ xs, H a = some (.lst xs)) ∨ ∃ ks, H a = some (.dK ks)) : Step K io H io (upd H a o) := by
  have nt : ∀ b u, H b = some u → (∀ xs, u ≠ .lst xs) → (∀ ks, u ≠ .dK ks) → b ≠ a := fun b u e h1 h2 z => by
    subst z
    rcases hm with ⟨xs, q⟩ | ⟨ks, q⟩
    · rw [e] at q; exact h1 xs (Option.some.inj q)
    · rw [e] at q; exact h2 ks (Option.some.inj q)
  exact {
    pre := fun _ _ h => h
    tup := fun b xs h => by
      rcases h with (h | ⟨u, h⟩) | h
      · exact .inl (.inl (by rw [upd_ne (nt b _ h (fun _ z => nomatch z) (fun _ z => nomatch z))]; exact h))
      · exact .inl (.inr ⟨u, by rw [upd_ne (nt b _ h (fun _ z => nomatch z) (fun _ z => nomatch z))]; exact h⟩)
      · exact .inr h
    scr := fun b xs h => by
      rcases h with ⟨u, h⟩ | h
      · exact .inl ⟨u, by rw [upd_ne (nt b _ h (fun _ z => nomatch z) (fun _ z => nomatch z))]; exact h⟩
      · exact .inr h
    rng := fun b lo hi h => by rw [upd_ne (nt b _ h (fun _ z => nomatch z) (fun _ z => nomatch z))]; exact h
    oth := fun b u h n => by rw [upd_ne (fun z => n (by rw [z]; exact m))]; exact h
    new := fun _ q => .inl q }
theorem R.write {n : Nat} {x : O} (r : R K io h H) (e : io[n]? = some a) (q : Step K io H io (upd H a o) → ORel K io (upd H a o) a x) : R K io (h.set n x) (upd H a o) := by
  have m : a ∈ io := List.mem_of_getElem? e
  have s : Step K io H io (upd H a o) := Step.write m (r.isMut m)
  refine ⟨by rw [List.length_set]; exact r.len, r.inj, fun k y ek => ?_⟩
  by_cases hk : n = k
  · subst hk
    have hn : n < h.length := by rw [← r.len]; exact (List.getElem?_eq_some_iff.mp e).1
    rw [List.getElem?_set_self hn] at ek
    cases ek
    exact ⟨a, e, q s⟩
  · rw [List.getElem?_set_ne hk] at ek
    obtain ⟨b, e2, t⟩ := r.obj k y ek
    refine ⟨b, e2, t.mono s (upd_ne fun z => ?_)⟩
    subst z
    exact hk ((List.getElem?_inj (List.getElem?_eq_some_iff.mp e).1 r.inj).mp (e.trans e2.symm))
end
/-- a list object of the mirror's heap -/
theorem R.isLst {K : PySem.W.Frag} {io : List Addr} {h : DH} {H : Hp} (r : R K io h H) {n : Nat} {ds : List D} {v : V} (v1 : DRel K io H v (.ref n)) (e : h[n]? = some (.lst ds)) : ∃ a xs, v = .ref a ∧ io[n]? = some a ∧ H a = some (.lst xs) ∧ DRels K io H xs ds := by
  cases v1 with
  | ref q =>
    obtain ⟨b, e2, xs, hx, rx⟩ := r.obj n _ e
    rw [q] at e2; cases e2
    exact ⟨_, xs, rfl, q, hx, rx⟩

/-! ### the slots -/
structure EnvR (K : PySem.W.Frag) (io : List Addr) (H : Hp) (st : L2.St) (s : DS) : Prop where
  len : st.length = s.length
  get : ∀ (i : Nat) (d : D), s[i]? = some (some d) → ∃ v, st[i]? = some (some v) ∧ DRel K io H v d
section
variable {K : PySem.W.Frag} {io jo : List Addr} {H H' : Hp} {st : L2.St} {s : DS}
theorem EnvR.mono (t : Step K io H jo H') (e : EnvR K io H st s) : EnvR K jo H' st s := ⟨e.len, fun i d h => by
  obtain ⟨v, h1, h2⟩ := e.get i d h
  exact ⟨v, h1, h2.mono t⟩⟩
theorem EnvR.set (e : EnvR K io H st s) {v : V} {d : D} (h : DRel K io H v d) (i : Nat) : EnvR K io H (st.set i (some v)) (s.set i (some d)) := ⟨by simp [e.len], fun j d' hj => by
  by_cases hij : i = j
  · subst hij
    by_cases hl : i < s.length
    · rw [List.getElem?_set_self hl] at hj
      cases hj
      exact ⟨v, List.getElem?_set_self (by rw [e.len]; exact hl), h⟩
    · rw [List.getElem?_eq_none (by simpa using hl)] at hj; cases hj
  · rw [List.getElem?_set_ne hij] at hj
    obtain ⟨u, h1, h2⟩ := e.get j d' hj
    exact ⟨u, by rw [List.getElem?_set_ne hij]; exact h1, h2⟩⟩
theorem EnvR.unset (e : EnvR K io H st s) (i : Nat) : EnvR K io H (st.set i none) (s.set i none) := ⟨by simp [e.len], fun j d' hj => by
  by_cases hij : i = j
  · subst hij
    by_cases hl : i < s.length
    · rw [List.getElem?_set_self hl] at hj; cases hj
    · rw [List.getElem?_eq_none (by simpa using hl)] at hj; cases hj
  · rw [List.getElem?_set_ne hij] at hj
    obtain ⟨u, h1, h2⟩ := e.get j d' hj
    exact ⟨u, by rw [List.getElem?_set_ne hij]; exact h1, h2⟩⟩
end

/-! ### what a result promises -/
structure Zx where
  K : PySem.W.Frag
  Cs : List Addr
  W : WX
def ExR (Z : Zx) (io : List Addr) (H : Hp) (x : Exn) (cls : Value) (dd : Option Addr) : Prop :=
  ∃ C, Z.Cs[x.cls]? = some C ∧ cls = .ref C ∧ ((x.fs = [] ∧ dd = none) ∨ ∃ d vs, dd = some d ∧ d ∉ io ∧ H d = some (.xd vs) ∧ Paired (fun (p : Str × V) (q : Str × D) => p.1 = q.1 ∧ DRel Z.K io H p.2 q.2) vs x.fs)
def PostR (Z : Zx) (io : List Addr) (H : Hp) (st : L2.St) {α β : Type} (rel : List Addr → Hp → β → α → Prop) (r : Res α) (Q : β → Hp → Prop) : Prop :=
  match r with
  | .ok d h' => ∀ v H' jo, Step Z.K io H jo H' → R Z.K jo h' H' → rel jo H' v d → Q v H'
  | .exc x h' => ∀ cls dd H' jo, Step Z.K io H jo H' → R Z.K jo h' H' → ExR Z jo H' x cls dd → Z.W cls dd st H'
  | .no => False
section
variable {Z : Zx} {io jo : List Addr} {H H' : Hp} {st : L2.St} {α β γ δ : Type} {rel : List Addr → Hp → β → α → Prop} {rel1 : List Addr → Hp → δ → γ → Prop}
theorem PostR.imp {r : Res α} {Q Q' : β → Hp → Prop} (p : PostR Z io H st rel r Q) (q : ∀ v H', Q v H' → Q' v H') : PostR Z io H st rel r Q' := by
  cases r with
  | ok d h' => exact fun v H' jo s r1 r2 => q v H' (p v H' jo s r1 r2)
  | exc x h' => exact p
  | no => exact p
theorem PostR.at {r : Res α} {Q : β → Hp → Prop} (s : Step Z.K io H jo H') (p : PostR Z io H st rel r Q) : PostR Z jo H' st rel r Q := by
  cases r with
  | ok d h' => exact fun v H' jo t r1 r2 => p v H' jo (s.trans t) r1 r2
  | exc x h' => exact fun cls dd H' jo t r1 r2 => p cls dd H' jo (s.trans t) r1 r2
  | no => exact p
theorem PostR.bind {r : Res γ} {f : γ → DH → Res α} {Q : β → Hp → Prop} (p : PostR Z io H st rel (r.bind f) Q) :
    PostR Z io H st rel1 r fun v H1 => ∃ jo h1 d, Step Z.K io H jo H1 ∧ R Z.K jo h1 H1 ∧ rel1 jo H1 v d ∧ PostR Z jo H1 st rel (f d h1) Q := by
  cases r with
  | ok d h' => exact fun v H' jo s r1 r2 => ⟨jo, h', d, s, r1, r2, PostR.at s p⟩
  | exc x h' => exact p
  | no => exact p
/-- at the very place -/
theorem PostR.here {d : α} {h' : DH} {Q : β → Hp → Prop} {v : β} (p : PostR Z io H st rel (.ok d h') Q) (r : R Z.K io h' H) (q : rel io H v d) : Q v H := p v H io Step.refl r q
end

def PostS (Z : Zx) (io : List Addr) (H : Hp) (r : SR) (E : Ends) : Prop :=
  match r with
  | .nx s h' => ∀ st H' jo, Step Z.K io H jo H' → R Z.K jo h' H' → EnvR Z.K jo H' st s → E.nx st H'
  | .bk s h' => ∀ st H' jo, Step Z.K io H jo H' → R Z.K jo h' H' → EnvR Z.K jo H' st s → E.bk st H'
  | .ct s h' => ∀ st H' jo, Step Z.K io H jo H' → R Z.K jo h' H' → EnvR Z.K jo H' st s → E.ct st H'
  | .rt d h' => ∀ v H' jo, Step Z.K io H jo H' → R Z.K jo h' H' → DRel Z.K jo H' v d → E.rt v H'
  | .ex x s h' => ∀ cls dd st H' jo, Step Z.K io H jo H' → R Z.K jo h' H' → EnvR Z.K jo H' st s → ExR Z jo H' x cls dd → Z.W cls dd st H'
  | .no => False
section
variable {Z : Zx} {io jo : List Addr} {H H' : Hp} {st : L2.St} {s : DS} {γ δ : Type} {rel1 : List Addr → Hp → δ → γ → Prop}
theorem PostS.at {r : SR} {E : Ends} (t : Step Z.K io H jo H') (p : PostS Z io H r E) : PostS Z jo H' r E := by
  cases r with
  | nx s h' => exact fun st H' jo u r1 r2 => p st H' jo (t.trans u) r1 r2
  | bk s h' => exact fun st H' jo u r1 r2 => p st H' jo (t.trans u) r1 r2
  | ct s h' => exact fun st H' jo u r1 r2 => p st H' jo (t.trans u) r1 r2
  | rt d h' => exact fun v H' jo u r1 r2 => p v H' jo (t.trans u) r1 r2
  | ex x s h' => exact fun cls dd st H' jo u r1 r2 r3 => p cls dd st H' jo (t.trans u) r1 r2 r3
  | no => exact p
theorem PostS.bind {r : Res γ} {f : γ → DH → SR} {E : Ends} (p : PostS Z io H (bindS r s f) E) (e : EnvR Z.K io H st s) :
    PostR Z io H st rel1 r fun v H1 => ∃ jo h1 d, Step Z.K io H jo H1 ∧ R Z.K jo h1 H1 ∧ rel1 jo H1 v d ∧ PostS Z jo H1 (f d h1) E := by
  cases r with
  | ok d h' => exact fun v H' jo s r1 r2 => ⟨jo, h', d, s, r1, r2, PostS.at s p⟩
  | exc x h' => exact fun cls dd H' jo t r1 r2 => p cls dd st H' jo t r1 (e.mono t) r2
  | no => exact p
end

/-! ### readings of mirrors -/
def tM (Z : Zx) (m : ME) : TE := fun st H Q => ∃ io s h, R Z.K io h H ∧ EnvR Z.K io H st s ∧ PostR Z io H st (DRel Z.K) (m s h) Q
def tMT (Z : Zx) (m : MT) : TT := fun st H Q => ∃ io s h, R Z.K io h H ∧ EnvR Z.K io H st s ∧ PostR Z io H st (fun _ _ (b c : Bool) => b = c) (m s h) Q
def tMA (Z : Zx) (m : MA) : TA := fun st H Q => ∃ io s h, R Z.K io h H ∧ EnvR Z.K io H st s ∧ PostR Z io H st (DRels Z.K) (m s h) Q
def tMS (Z : Zx) (m : MS) : TS := fun E st H => ∃ io s h, R Z.K io h H ∧ EnvR Z.K io H st s ∧ PostS Z io H (m s h) E
def spM (K : PySem.W.Frag) (Cs : List Addr) (n : Nat) (F : List D → DH → Res D) : Sp := fun vs H Q E => ∃ io ds h, R K io h H ∧ DRels K io H vs ds ∧ vs.length = n ∧ PostR ⟨K, Cs, fun c d _ H => E c d H⟩ io H [] (DRel K) (F ds h) Q
theorem PE.weak {X : Cx} {e : Expr} {t t' : TE} (h : PE X e t) (w : ∀ st H Q, t' st H Q → t st H Q) : PE X e t' := ⟨fun pins s st H Q I q => h.run pins s st H Q I (w st H Q q)⟩
theorem PT.weak {X : Cx} {e : Expr} {t t' : TT} (h : PT X e t) (w : ∀ st H Q, t' st H Q → t st H Q) : PT X e t' := ⟨fun pins s st H Q I q => h.run pins s st H Q I (w st H Q q)⟩
theorem PA.weak {X : Cx} {e : List Expr} {t t' : TA} (h : PA X e t) (w : ∀ st H Q, t' st H Q → t st H Q) : PA X e t' := ⟨fun pos pins s st H Q I q => h.run pos pins s st H Q I (w st H Q q)⟩
theorem PS.weak {X : Cx} {e : Stmt} {t t' : TS} (h : PS X e t) (w : ∀ E st H, t' E st H → t E st H) : PS X e t' := ⟨fun pins s st H E I q => h.run pins s st H E I (w E st H q)⟩
theorem PSs.weak {X : Cx} {e : List Stmt} {t t' : TS} (h : PSs X e t) (w : ∀ E st H, t' E st H → t E st H) : PSs X e t' := ⟨fun pins s st H E I q => h.run pins s st H E I (w E st H q)⟩
end PyI
-- PyB
/-! PyB: the operators of the mirror, and that they are those of the model -/
namespace PyI
open PySem PySem.Spec PyProof.Rows L2

/-- the data of a value, as the library's == reads it -/
def toPy : Nat → DH → D → Option PyData
  | 0, _, _ => none
  | f + 1, h, d => match d with
    | .non => some .none
    | .bl b => some (.bool b)
    | .int i => some (.int i)
    | .str x => some (.str x)
    | .tup xs => (xs.mapM (toPy f h)).map .tuple
    | .scr ns => some (.list (ns.map .int))
    | .ref n => match h[n]? with
      | some (.lst xs) => (xs.mapM (toPy f h)).map .list
      | _ => none
    | _ => none
/-- a number that no check unfolds (a great literal beside a cast would be counted down one by one) -/
theorem hidEx (n : Int) : ∃ m : Int, m = n := ⟨n, rfl⟩
noncomputable def hid (n : Int) : Int := (hidEx n).choose
theorem hid_eq (n : Int) : hid n = n := (hidEx n).choose_spec
noncomputable def mulOk (i j : Int) : Bool :=
  (decide (-hid 18446744073709551616 < i) && decide (i < hid 18446744073709551616)) || (decide (-hid 18446744073709551616 < j) && decide (j < hid 18446744073709551616)) || decide (i.natAbs.log2 + j.natAbs.log2 < 1000000)
noncomputable def powOk (i j : Int) : Bool := decide (0 ≤ j) && decide (j ≤ hid 1000000) && decide (i.natAbs < 18446744073709551616)
def strMul (x : Str) (n : Int) : Str := ⟨(List.replicate n.toNat x.cps.toList).flatten.toArray⟩
noncomputable def opB (op : Operator) (x y : D) (h : DH) : Res D :=
  match op, x, y with
  | .Add, .int i, .int j => .ok (.int (i + j)) h
  | .Add, .str a, .str b => if a.length + b.length ≤ 16777216 then .ok (.str (a ++ b)) h else .no
  | .Add, .tup a, .tup b => if a.length + b.length ≤ 16777216 then .ok (.tup (a ++ b)) h else .no
  | .Add, .ref m, .ref n => match h[m]?, h[n]? with
    | some (.lst a), some (.lst b) => if a.length + b.length ≤ 16777216 then .ok (.ref h.length) (h ++ [.lst (a ++ b)]) else .no
    | _, _ => .no
  | .Sub, .int i, .int j => .ok (.int (i - j)) h
  | .Mult, .int i, .int j => if mulOk i j then .ok (.int (i * j)) h else .no
  | .Mult, .str a, .int k => if a.length ≤ 1000 ∧ -1000 ≤ k ∧ k ≤ 1000 then .ok (.str (strMul a k)) h else .no
  | .Mult, .tup a, .int k => if a ≠ [] ∧ 2 ≤ k ∧ k ≤ 1000 ∧ a.length ≤ 1000 then .ok (.tup (List.replicate k.toNat a).flatten) h else .no
  | .Mult, .ref m, .int k => match h[m]? with
    | some (.lst a) => if -1000 ≤ k ∧ k ≤ 1000 ∧ a.length ≤ 1000 then .ok (.ref h.length) (h ++ [.lst (List.replicate k.toNat a).flatten]) else .no
    | _ => .no
  | .FloorDiv, .int i, .int j => if 0 < j ∧ j.natAbs.log2 < 9000 then .ok (.int (i / j)) h else .no
  | .Mod, .int i, .int j => if 0 < j then .ok (.int (i % j)) h else .no
  | .Pow, .int i, .int j => if powOk i j then .ok (.int (i ^ j.toNat)) h else .no
  | .LShift, .int i, .int j => if powOk i j then .ok (.int (i * 2 ^ j.toNat)) h else .no
  | .RShift, .int i, .int j => if 0 ≤ j then .ok (.int (i / 2 ^ j.toNat)) h else .no
  | .BitAnd, .int i, .int j => .ok (.int (Builtin.bitAnd i j)) h
  | .BitOr, .int i, .int j => .ok (.int (Builtin.bitOr i j)) h
  | _, _, _ => .no

def ror (r1 r2 : R2) : R2 := fun x y H Q => r1 x y H Q ∨ r2 x y H Q
theorem OpR.ror {X : Cx} {f : Value → Value → Sem Value} {r1 r2 : R2} (h1 : OpR X f r1) (h2 : OpR X f r2) : OpR X f (ror r1 r2) := by
  intro pins s st H x y v u Q I rx ry h
  rcases h with h | h
  · exact h1 pins s st H x y v u Q I rx ry h
  · exact h2 pins s st H x y v u Q I rx ry h
def OpS (Z : Zx) (r : R2) (f : D → D → DH → Res D) : Prop :=
  ∀ io h H st x y dx dy Q, R Z.K io h H → DRel Z.K io H x dx → DRel Z.K io H y dy → PostR Z io H st (DRel Z.K) (f dx dy h) Q → r x y H Q
/-- nothing is asked where nothing is promised -/
def rNo : R2 := fun _ _ _ _ => False
theorem OpR.no {X : Cx} {f : Value → Value → Sem Value} : OpR X f rNo := fun _ _ _ _ _ _ _ _ _ _ _ _ h => False.elim h

section
variable {Z : Zx} {io : List Addr} {h : DH} {H : Hp} {st : L2.St}
theorem newLst {ds : List D} {xs : List V} {Q : VK} (r : R Z.K io h H) (rx : DRels Z.K io H xs ds) (p : PostR Z io H st (DRel Z.K) (.ok (.ref h.length) (h ++ [.lst ds])) Q) {a : Addr} (ha : H a = none) : Q (.ref a) (upd H a (.lst xs)) := by
  have s : Step Z.K io H (io ++ [a]) (upd H a (.lst xs)) := Step.grow ha (Step.put ha)
  refine p _ _ (io ++ [a]) s (r.grow ha ⟨xs, upd_same, DRels.mono s rx⟩) (.ref ?_)
  rw [← r.len]
  simp
theorem newTup {ds : List D} {xs : List V} {Q : VK} (r : R Z.K io h H) (rx : DRels Z.K io H xs ds) (p : PostR Z io H st (DRel Z.K) (.ok (.tup ds) h) Q) {a : Addr} (ha : H a = none) : Q (.ref a) (upd H a (.tup xs)) := by
  have s : Step Z.K io H io (upd H a (.tup xs)) := Step.put ha
  exact p _ _ io s (r.put ha) (.tup (.inl (.inl upd_same)) (DRels.mono s rx))
theorem DRel.tupInv {v : V} {ds : List D} (d : DRel Z.K io H v (.tup ds)) : ∃ a xs, v = .ref a ∧ SqT Z.K H a xs ∧ DRels Z.K io H xs ds := by
  cases d with
  | tup q r => exact ⟨_, _, rfl, q, r⟩
end
def rStrMul : R2 := fun x y H Q => ∃ a k, x = .str a ∧ y = .int k ∧ MulOk a k ∧ Q (.str (Txt.mul a k)) H
theorem op_strMul {X : Cx} : OpR X (binaryOp .Mult) rStrMul := by
  intro pins s st H x y v u Q I rx ry h
  obtain ⟨a, k, rfl, rfl, ok, q⟩ := h
  obtain ⟨t, rfl⟩ := rx
  obtain ⟨t', rfl⟩ := ry
  exact SB.mul ok fun t2 k2 => ⟨.str _, H, I.tok _, ⟨_, rfl⟩, q⟩
theorem foldl_flat (a : Array Nat) : ∀ (n : Nat) (acc : Array Nat), (List.replicate n a).foldl (· ++ ·) acc = acc ++ (List.replicate n a.toList).flatten.toArray
  | 0, acc => by simp
  | n + 1, acc => by
    rw [List.replicate_succ, List.foldl_cons, foldl_flat a n]
    apply Array.ext'
    simp [List.replicate_succ]
theorem strMul_eq (a : Str) (k : Int) : Txt.mul a k = strMul a k := by
  unfold Txt.mul strMul
  by_cases h : k < 1
  · rw [if_pos h]
    have : k.toNat = 0 := by omega
    rw [this]
    rfl
  · rw [if_neg h]
    by_cases h2 : (k == 1 || a.length == 0) = true
    · rw [if_pos h2]
      rw [Bool.or_eq_true] at h2
      rcases h2 with h2 | h2
      · have : k = 1 := by simpa using h2
        subst this
        simp
      · have e : a.cps.size = 0 := by simpa [Str.length] using h2
        have e2 : a.cps = #[] := Array.eq_empty_of_size_eq_zero e
        obtain ⟨c⟩ := a
        simp only at e2
        subst e2
        simp
    · rw [if_neg h2, foldl_flat]
      simp
theorem mulOk_str {a : Str} {k : Int} (h1 : a.length ≤ 1000) (h2 : -1000 ≤ k) (h3 : k ≤ 1000) : MulOk a k := by
  refine ⟨?_, fun h4 h5 => ?_, fun h4 h5 => ?_⟩
  · rw [Bool.or_eq_false_iff]
    constructor <;> (rw [decide_eq_false_iff_not]; omega)
  · have q : (2 ^ 63 - 1 : Int) / 1000 ≤ (2 ^ 63 - 1) / k := by
      apply Int.le_ediv_of_mul_le (by omega)
      have : (2 ^ 63 - 1 : Int) / 1000 * k ≤ (2 ^ 63 - 1 : Int) / 1000 * 1000 := Int.mul_le_mul_of_nonneg_left h3 (by decide)
      have : (2 ^ 63 - 1 : Int) / 1000 * 1000 ≤ 2 ^ 63 - 1 := by decide
      omega
    have : (1000 : Int) ≤ (2 ^ 63 - 1) / 1000 := by decide
    omega
  · have hs := sizeLine_eq
    have : a.length * k.toNat ≤ 1000 * 1000 := Nat.mul_le_mul h1 (by omega)
    unfold Builtin.Str.tooLong
    simp
    omega
theorem DRels.nil_iff {K : PySem.W.Frag} {io : List Addr} {H : Hp} {xs : List V} {ds : List D} (r : DRels K io H xs ds) : xs = [] ↔ ds = [] := by
  cases r <;> simp
theorem DRels.reps {K : PySem.W.Frag} {io : List Addr} {H : Hp} {xs : List V} {ds : List D} (r : DRels K io H xs ds) : ∀ n : Nat, DRels K io H (List.replicate n xs).flatten (List.replicate n ds).flatten
  | 0 => .nil
  | n + 1 => by
    rw [List.replicate_succ, List.replicate_succ, List.flatten_cons, List.flatten_cons]
    exact DRels.append r (DRels.reps r n)

theorem opB_ok (X : Cx) (Z : Zx) (hK : Z.K = X.K) (op : Operator) : ∃ r, OpR X (binaryOp op) r ∧ OpS Z r (opB op) := by
  have hs := sizeLine_eq
  cases op with
  | Add =>
    refine ⟨_, (OpR.ror op_add (OpR.ror op_add_str (OpR.ror op_catA op_cat))), fun io h H st x y dx dy Q r rx ry p => ?_⟩
    rw [← hK]
    cases dx <;> cases dy <;> (try exact False.elim p)
    · cases rx; cases ry; exact .inl ⟨_, _, rfl, rfl, p.here r (.int _)⟩
    · rename_i a b
      cases rx; cases ry
      by_cases c : a.length + b.length ≤ 16777216
      · have p : PostR Z io H st (DRel Z.K) (if a.length + b.length ≤ 16777216 then .ok (.str (a ++ b)) h else .no) Q := p
        rw [if_pos c] at p
        exact .inr (.inl ⟨_, _, rfl, rfl, by omega, p.here r (.str _)⟩)
      · have p : PostR Z io H st (DRel Z.K) (if a.length + b.length ≤ 16777216 then .ok (.str (a ++ b)) h else .no) Q := p
        rw [if_neg c] at p
        exact p.elim
    · rename_i a b
      obtain ⟨u, xs, rfl, q1, r1⟩ := rx.tupInv
      obtain ⟨w, ys, rfl, q2, r2⟩ := ry.tupInv
      have p : PostR Z io H st (DRel Z.K) (if a.length + b.length ≤ 16777216 then .ok (.tup (a ++ b)) h else .no) Q := p
      by_cases c : a.length + b.length ≤ 16777216
      · rw [if_pos c] at p
        refine .inr (.inr (.inl ⟨u, w, xs, ys, rfl, rfl, q1, q2, by rw [r1.length, r2.length]; omega, fun e => ?_, fun _ e => ?_, fun _ _ l hl => newTup r (r1.append r2) p hl⟩))
        · have e' := r1.nil_iff.mp e
          subst e'
          exact p.here r ry
        · have e' := r2.nil_iff.mp e
          subst e'
          rw [List.append_nil] at p
          exact p.here r rx
      · rw [if_neg c] at p
        exact p.elim
    · rename_i m n
      have p : PostR Z io H st (DRel Z.K) (match h[m]?, h[n]? with | some (.lst a), some (.lst b) => if a.length + b.length ≤ 16777216 then .ok (.ref h.length) (h ++ [.lst (a ++ b)]) else .no | _, _ => .no) Q := p
      split at p
      · rename_i a b e1 e2
        obtain ⟨u, xs, rfl, _, q1, r1⟩ := r.isLst rx e1
        obtain ⟨w, ys, rfl, _, q2, r2⟩ := r.isLst ry e2
        by_cases c : a.length + b.length ≤ 16777216
        · rw [if_pos c] at p
          exact .inr (.inr (.inr ⟨u, w, xs, ys, rfl, rfl, q1, q2, by rw [r1.length, r2.length]; omega, fun l hl => newLst r (r1.append r2) p hl⟩))
        · rw [if_neg c] at p
          exact p.elim
      · exact p.elim
  | Sub =>
    refine ⟨_, op_sub, fun io h H st x y dx dy Q r rx ry p => ?_⟩
    cases dx <;> cases dy <;> (try exact False.elim p)
    cases rx; cases ry; exact ⟨_, _, rfl, rfl, p.here r (.int _)⟩
  | Mult =>
    refine ⟨_, OpR.ror op_mul (OpR.ror op_mulW (OpR.ror op_strMul (OpR.ror op_repT op_rep))), fun io h H st x y dx dy Q r rx ry p => ?_⟩
    rw [← hK]
    cases dx <;> cases dy <;> (try exact False.elim p)
    · rename_i i j
      cases rx; cases ry
      have p : PostR Z io H st (DRel Z.K) (if mulOk i j then .ok (.int (i * j)) h else .no) Q := p
      by_cases c : mulOk i j = true
      · rw [if_pos c] at p
        have q := p.here r (.int _)
        unfold mulOk at c
        rw [hid_eq] at c
        rw [Bool.or_eq_true, Bool.or_eq_true, Bool.and_eq_true, Bool.and_eq_true] at c
        simp only [decide_eq_true_eq] at c
        rcases c with (c | c) | c
        · exact .inl ⟨i, j, rfl, rfl, .inl (by omega), q⟩
        · exact .inl ⟨i, j, rfl, rfl, .inr (by omega), q⟩
        · exact .inr (.inl ⟨i, j, rfl, rfl, c, q⟩)
      · rw [if_neg c] at p
        exact p.elim
    · rename_i a k
      cases rx; cases ry
      have p : PostR Z io H st (DRel Z.K) (if a.length ≤ 1000 ∧ -1000 ≤ k ∧ k ≤ 1000 then .ok (.str (strMul a k)) h else .no) Q := p
      by_cases c : a.length ≤ 1000 ∧ -1000 ≤ k ∧ k ≤ 1000
      · rw [if_pos c] at p
        have q := p.here r (.str _)
        exact .inr (.inr (.inl ⟨a, k, rfl, rfl, mulOk_str c.1 c.2.1 c.2.2, by rw [strMul_eq]; exact q⟩))
      · rw [if_neg c] at p
        exact p.elim
    · rename_i a k
      obtain ⟨u, xs, rfl, q1, r1⟩ := rx.tupInv
      cases ry
      have p : PostR Z io H st (DRel Z.K) (if a ≠ [] ∧ 2 ≤ k ∧ k ≤ 1000 ∧ a.length ≤ 1000 then .ok (.tup (List.replicate k.toNat a).flatten) h else .no) Q := p
      by_cases c : a ≠ [] ∧ 2 ≤ k ∧ k ≤ 1000 ∧ a.length ≤ 1000
      · rw [if_pos c] at p
        exact .inr (.inr (.inr (.inl ⟨u, k, xs, rfl, rfl, q1, fun e => c.1 (r1.nil_iff.mp e), c.2.1, c.2.2.1, by rw [r1.length]; exact c.2.2.2, fun l hl => newTup r (r1.reps _) p hl⟩)))
      · rw [if_neg c] at p
        exact p.elim
    · rename_i m k
      cases ry
      have p : PostR Z io H st (DRel Z.K) (match h[m]? with | some (.lst a) => if -1000 ≤ k ∧ k ≤ 1000 ∧ a.length ≤ 1000 then .ok (.ref h.length) (h ++ [.lst (List.replicate k.toNat a).flatten]) else .no | _ => .no) Q := p
      split at p
      · rename_i a e1
        obtain ⟨u, xs, rfl, _, q1, r1⟩ := r.isLst rx e1
        by_cases c : -1000 ≤ k ∧ k ≤ 1000 ∧ a.length ≤ 1000
        · rw [if_pos c] at p
          have z : xs.length * k.toNat ≤ 1000 * 1000 := Nat.mul_le_mul (by rw [r1.length]; exact c.2.2) (by omega)
          exact .inr (.inr (.inr (.inr ⟨u, k, xs, rfl, rfl, q1, by omega, by omega, by omega, fun l hl => newLst r (r1.reps _) p hl⟩)))
        · rw [if_neg c] at p
          exact p.elim
      · exact p.elim
  | FloorDiv =>
    refine ⟨_, op_fdivW, fun io h H st x y dx dy Q r rx ry p => ?_⟩
    cases dx <;> cases dy <;> (try exact False.elim p)
    rename_i i j
    cases rx; cases ry
    have p : PostR Z io H st (DRel Z.K) (if 0 < j ∧ j.natAbs.log2 < 9000 then .ok (.int (i / j)) h else .no) Q := p
    by_cases c : 0 < j ∧ j.natAbs.log2 < 9000
    · rw [if_pos c] at p; exact ⟨i, j, rfl, rfl, c, p.here r (.int _)⟩
    · rw [if_neg c] at p; exact p.elim
  | Mod =>
    refine ⟨_, op_mod, fun io h H st x y dx dy Q r rx ry p => ?_⟩
    cases dx <;> cases dy <;> (try exact False.elim p)
    rename_i i j
    cases rx; cases ry
    have p : PostR Z io H st (DRel Z.K) (if 0 < j then .ok (.int (i % j)) h else .no) Q := p
    by_cases c : 0 < j
    · rw [if_pos c] at p; exact ⟨i, j, rfl, rfl, c, p.here r (.int _)⟩
    · rw [if_neg c] at p; exact p.elim
  | Pow =>
    refine ⟨_, op_pow, fun io h H st x y dx dy Q r rx ry p => ?_⟩
    cases dx <;> cases dy <;> (try exact False.elim p)
    rename_i i j
    cases rx; cases ry
    have p : PostR Z io H st (DRel Z.K) (if powOk i j then .ok (.int (i ^ j.toNat)) h else .no) Q := p
    by_cases c : powOk i j = true
    · rw [if_pos c] at p
      unfold powOk at c
      rw [hid_eq] at c
      rw [Bool.and_eq_true, Bool.and_eq_true] at c
      simp only [decide_eq_true_eq] at c
      exact ⟨i, j, rfl, rfl, ⟨c.1.1, c.1.2, c.2⟩, p.here r (.int _)⟩
    · rw [if_neg c] at p; exact p.elim
  | LShift =>
    refine ⟨_, op_shl, fun io h H st x y dx dy Q r rx ry p => ?_⟩
    cases dx <;> cases dy <;> (try exact False.elim p)
    rename_i i j
    cases rx; cases ry
    have p : PostR Z io H st (DRel Z.K) (if powOk i j then .ok (.int (i * 2 ^ j.toNat)) h else .no) Q := p
    by_cases c : powOk i j = true
    · rw [if_pos c] at p
      unfold powOk at c
      rw [hid_eq] at c
      rw [Bool.and_eq_true, Bool.and_eq_true] at c
      simp only [decide_eq_true_eq] at c
      exact ⟨i, j, rfl, rfl, ⟨c.1.1, c.1.2, c.2⟩, p.here r (.int _)⟩
    · rw [if_neg c] at p; exact p.elim
  | RShift =>
    refine ⟨_, op_shr, fun io h H st x y dx dy Q r rx ry p => ?_⟩
    cases dx <;> cases dy <;> (try exact False.elim p)
    rename_i i j
    cases rx; cases ry
    have p : PostR Z io H st (DRel Z.K) (if 0 ≤ j then .ok (.int (i / 2 ^ j.toNat)) h else .no) Q := p
    by_cases c : 0 ≤ j
    · rw [if_pos c] at p; exact ⟨i, j, rfl, rfl, c, p.here r (.int _)⟩
    · rw [if_neg c] at p; exact p.elim
  | BitAnd =>
    refine ⟨_, op_and, fun io h H st x y dx dy Q r rx ry p => ?_⟩
    cases dx <;> cases dy <;> (try exact False.elim p)
    cases rx; cases ry; exact ⟨_, _, rfl, rfl, p.here r (.int _)⟩
  | BitOr =>
    refine ⟨_, op_or, fun io h H st x y dx dy Q r rx ry p => ?_⟩
    cases dx <;> cases dy <;> (try exact False.elim p)
    cases rx; cases ry; exact ⟨_, _, rfl, rfl, p.here r (.int _)⟩
  | _ => exact ⟨rNo, OpR.no, fun io h H st x y dx dy Q r rx ry p => by cases dx <;> cases dy <;> exact False.elim p⟩
end PyI
-- PyC
/-! PyC: the comparisons of the mirror -/
namespace PyI
open PySem PySem.Spec PyProof.Rows L2

def eqD (h : DH) (x y : D) : Option Bool :=
  match toPy 66 h x, toPy 66 h y with
  | some a, some b => if SeqAt.shaped a && SeqAt.shaped b then some (PyData.eqv a b) else none
  | _, _ => none
def flatD : D → Bool
  | .non | .bl _ | .int _ | .str _ => true
  | _ => false
def eqF : D → D → Bool
  | .non, .non => true
  | .bl a, .bl b => a == b
  | .bl a, .int b => (if a then 1 else 0) == b
  | .int a, .bl b => a == (if b then 1 else 0)
  | .int a, .int b => a == b
  | .str a, .str b => a == b
  | _, _ => false
def inF (x : D) (xs : List D) : Bool := xs.any fun y => eqF y x
def inStr (x y : Str) : Bool := match x.cps.toList with
  | [c] => decide (c ∈ y.cps.toList)
  | _ => !(Builtin.Str.occurrences y x 0 y.length 1).isEmpty
def inD (h : DH) (x y : D) : Option Bool :=
  match x, y with
  | .str a, .str b => some (inStr a b)
  | x, .tup xs => if flatD x && xs.all flatD then some (inF x xs) else none
  | x, .ref n => match h[n]? with
    | some (.lst xs) => if flatD x && xs.all flatD then some (inF x xs) else match toPy 66 h x, toPy 66 h (.ref n) with
      | some a, some (.list ds) => if SeqAt.shaped a && SeqAt.shaped (.list ds) then some (ds.any fun z => PyData.eqv z a) else none
      | _, _ => none
    | _ => none
  | _, _ => none
def isNon : D → Bool
  | .non => true
  | _ => false
def retB (b : Option Bool) (h : DH) : Res D := match b with
  | some b => .ok (.bl b) h
  | none => .no
def opC (op : CmpOp) (x y : D) (h : DH) : Res D :=
  match op with
  | .Lt => match x, y with
    | .int i, .int j => .ok (.bl (decide (i < j))) h
    | .str i, .str j => .ok (.bl (decide (i.cps.toList < j.cps.toList))) h
    | _, _ => .no
  | .LtE => match x, y with
    | .int i, .int j => .ok (.bl (decide (i ≤ j))) h
    | .str i, .str j => .ok (.bl (!decide (j.cps.toList < i.cps.toList))) h
    | _, _ => .no
  | .Gt => match x, y with
    | .int i, .int j => .ok (.bl (decide (j < i))) h
    | .str i, .str j => .ok (.bl (decide (j.cps.toList < i.cps.toList))) h
    | _, _ => .no
  | .GtE => match x, y with
    | .int i, .int j => .ok (.bl (decide (j ≤ i))) h
    | .str i, .str j => .ok (.bl (!decide (i.cps.toList < j.cps.toList))) h
    | _, _ => .no
  | .Is => match x, y with
    | x, .non => .ok (.bl (isNon x)) h
    | .bl a, .bl b => .ok (.bl (decide (a = b))) h
    | _, _ => .no
  | .IsNot => match x, y with
    | x, .non => .ok (.bl (!isNon x)) h
    | .bl a, .bl b => .ok (.bl (!decide (a = b))) h
    | _, _ => .no
  | .Eq => match x, y with
    | .int i, .int j => .ok (.bl (decide (i = j))) h
    | .str i, .str j => .ok (.bl (decide (i = j))) h
    | .bl i, .bl j => .ok (.bl (decide (i = j))) h
    | x, y => retB (eqD h x y) h
  | .NotEq => match x, y with
    | .int i, .int j => .ok (.bl (!decide (i = j))) h
    | .str i, .str j => .ok (.bl (!decide (i = j))) h
    | .bl i, .bl j => .ok (.bl (!decide (i = j))) h
    | x, y => retB ((eqD h x y).map not) h
  | .In => retB (inD h x y) h
  | .NotIn => retB ((inD h x y).map not) h

section
variable {K : PySem.W.Frag} {io : List Addr} {h : DH} {H : Hp}
theorem toPys_ok {f : Nat} (ih : ∀ (d : D) (p : PyData) (v : V), toPy f h d = some p → DRel K io H v d → Dp K H v p) :
    ∀ (ds : List D) (ps : List PyData) (vs : List V), ds.mapM (toPy f h) = some ps → DRels K io H vs ds → DpAll K H vs ps
  | [], ps, vs, e, r => by
    cases r
    simp at e
    subst e
    exact .nil
  | d :: ds, ps, vs, e, r => by
    cases r with
    | cons q r =>
      rw [List.mapM_cons] at e
      cases e1 : toPy f h d with
      | none => rw [e1] at e; simp at e
      | some p =>
        cases e2 : ds.mapM (toPy f h) with
        | none => rw [e1, e2] at e; simp at e
        | some ps' =>
          rw [e1, e2] at e
          simp at e
          subst e
          exact .cons (ih d p _ e1 q) (toPys_ok ih ds ps' _ e2 r)
theorem dpInts : ∀ (ns : List Int), DpAll K H (ns.map V.int) (ns.map .int)
  | [] => .nil
  | n :: ns => .cons (.int n) (dpInts ns)
theorem toPy_ok (r : R K io h H) : ∀ (f : Nat) (d : D) (p : PyData) (v : V), toPy f h d = some p → DRel K io H v d → Dp K H v p
  | 0, _, _, _, e, _ => by simp [toPy] at e
  | f + 1, d, p, v, e, q => by
    have ih := toPys_ok (toPy_ok r f)
    unfold toPy at e
    cases d with
    | non => cases q; simp at e; subst e; exact .non
    | bl b => cases q; simp at e; subst e; exact .bl b
    | int b => cases q; simp at e; subst e; exact .int b
    | str b => cases q; simp at e; subst e; exact .str b
    | tup xs =>
      cases q with
      | tup hs hr =>
        simp only at e
        cases e2 : xs.mapM (toPy f h) with
        | none => rw [e2] at e; simp at e
        | some ps =>
          rw [e2] at e
          simp at e
          subst e
          exact .tup hs (ih _ _ _ e2 hr)
    | scr ns =>
      cases q with
      | scr hs =>
        simp at e
        subst e
        exact .lst hs.l (dpInts ns)
    | ref n =>
      simp only at e
      split at e
      · rename_i xs e1
        obtain ⟨a, ys, rfl, _, hy, ry⟩ := r.isLst q e1
        cases e2 : xs.mapM (toPy f h) with
        | none => rw [e2] at e; simp at e
        | some ps =>
          rw [e2] at e
          simp at e
          subst e
          exact .lst (SqL.of hy) (ih _ _ _ e2 ry)
      · cases e
    | rng lo hi => simp at e
    | ty n => simp at e
theorem flat_of {v : V} {d : D} (q : DRel K io H v d) : flatD d = true → flatV v = true := by
  cases q <;> simp [flatD, flatV]
theorem flats_of : ∀ {vs : List V} {ds : List D}, DRels K io H vs ds → ds.all flatD = true → vs.all flatV = true
  | _, _, .nil, _ => rfl
  | _, _, .cons q r, e => by
    rw [List.all_cons, Bool.and_eq_true] at e
    rw [List.all_cons, flat_of q e.1, flats_of r e.2]
    rfl
theorem eqF_of {v w : V} {d e : D} (q : DRel K io H v d) (r : DRel K io H w e) (f1 : flatD d = true) (f2 : flatD e = true) : eqV v w = eqF d e := by
  cases q <;> cases r <;> first | rfl | (exact absurd f1 (by simp [flatD])) | (exact absurd f2 (by simp [flatD]))
theorem inF_of {w : V} {e : D} (r : DRel K io H w e) (f2 : flatD e = true) : ∀ {vs : List V} {ds : List D}, DRels K io H vs ds → ds.all flatD = true → inV w vs = inF e ds
  | _, _, .nil, _ => rfl
  | _, _, .cons q t, f => by
    rw [List.all_cons, Bool.and_eq_true] at f
    have ih := inF_of r f2 t f.2
    unfold inV inF at ih ⊢
    rw [List.any_cons, List.any_cons, eqF_of q r f.1 f2, ih]
end

theorem op_inStr {X : Cx} : OpR X (compareOp .In) (fun x y H Q => ∃ i j, x = .str i ∧ y = .str j ∧ Q (.bl (inStr i j)) H) := by
  intro pins s st H x y v u Q I rx ry h
  obtain ⟨i, j, rfl, rfl, q⟩ := h
  unfold inStr at q
  split at q
  · rename_i c e
    have e2 : i = ⟨#[c]⟩ := by
      obtain ⟨a⟩ := i
      have : a = #[c] := by simpa using congrArg List.toArray e
      rw [this]
    subst e2
    exact op_in_sign pins s st H _ _ v u Q I rx ry ⟨c, j, rfl, rfl, q⟩
  · exact op_in_str pins s st H _ _ v u Q I rx ry ⟨i, j, rfl, rfl, q⟩
theorem op_notInStr {X : Cx} : OpR X (compareOp .NotIn) (fun x y H Q => ∃ i j, x = .str i ∧ y = .str j ∧ Q (.bl (!inStr i j)) H) := by
  intro pins s st H x y v u Q I rx ry h
  obtain ⟨i, j, rfl, rfl, q⟩ := h
  unfold inStr at q
  split at q
  · rename_i c e
    have e2 : i = ⟨#[c]⟩ := by
      obtain ⟨a⟩ := i
      have : a = #[c] := by simpa using congrArg List.toArray e
      rw [this]
    subst e2
    exact op_notIn_sign pins s st H _ _ v u Q I rx ry ⟨c, j, rfl, rfl, q⟩
  · exact op_notin_str pins s st H _ _ v u Q I rx ry ⟨i, j, rfl, rfl, q⟩
section
variable {Z : Zx} {io : List Addr} {h : DH} {H : Hp} {st : L2.St} {Q : VK}
theorem retB_post {b : Option Bool} (p : PostR Z io H st (DRel Z.K) (retB b h) Q) (r : R Z.K io h H) : ∃ c, b = some c ∧ Q (.bl c) H := by
  cases b with
  | none => exact False.elim p
  | some c => exact ⟨c, rfl, PostR.here (rel := DRel Z.K) p r (.bl c)⟩
theorem eqD_inv {x y : D} {b : Bool} (e : eqD h x y = some b) : ∃ p q, toPy 66 h x = some p ∧ toPy 66 h y = some q ∧ SeqAt.shaped p = true ∧ SeqAt.shaped q = true ∧ b = PyData.eqv p q := by
  unfold eqD at e
  split at e
  · rename_i p q e1 e2
    split at e
    · rename_i c
      rw [Bool.and_eq_true] at c
      exact ⟨p, q, e1, e2, c.1, c.2, (Option.some.inj e).symm⟩
    · cases e
  · cases e
theorem eqD_post {v w : V} {x y : D} {neg : Bool} (r : R Z.K io h H) (rx : DRel Z.K io H v x) (ry : DRel Z.K io H w y)
    (p : PostR Z io H st (DRel Z.K) (retB ((eqD h x y).map fun b => if neg then !b else b) h) Q) :
    ∃ d e, Dp Z.K H v d ∧ Dp Z.K H w e ∧ SeqAt.shaped d = true ∧ SeqAt.shaped e = true ∧ Q (.bl (if neg then !PyData.eqv d e else PyData.eqv d e)) H := by
  obtain ⟨c, hc, q⟩ := retB_post p r
  cases e : eqD h x y with
  | none => rw [e] at hc; cases hc
  | some b =>
    rw [e] at hc
    cases hc
    obtain ⟨p1, p2, e1, e2, s1, s2, rfl⟩ := eqD_inv e
    exact ⟨p1, p2, toPy_ok r 66 x p1 v e1 rx, toPy_ok r 66 y p2 w e2 ry, s1, s2, q⟩
def rInA (K : PySem.W.Frag) (neg : Bool) : R2 := fun x y H Q => (∃ i j, x = .str i ∧ y = .str j ∧ Q (.bl (if neg then !inStr i j else inStr i j)) H) ∨ rIn K neg x y H Q ∨
  ∃ d ds, Dp K H x d ∧ Dp K H y (.list ds) ∧ SeqAt.shaped d = true ∧ SeqAt.shaped (.list ds) = true ∧ Q (.bl (if neg then !(ds.any fun z => PyData.eqv z d) else ds.any fun z => PyData.eqv z d)) H
theorem inD_post {v w : V} {x y : D} {neg : Bool} (r : R Z.K io h H) (rx : DRel Z.K io H v x) (ry : DRel Z.K io H w y)
    (p : PostR Z io H st (DRel Z.K) (retB ((inD h x y).map fun b => if neg then !b else b) h) Q) : rInA Z.K neg v w H Q := by
  obtain ⟨c, hc, q⟩ := retB_post p r
  cases e : inD h x y with
  | none => rw [e] at hc; cases hc
  | some b =>
    rw [e] at hc
    cases hc
    unfold inD at e
    split at e
    · cases rx; cases ry
      cases e
      exact .inl ⟨_, _, rfl, rfl, q⟩
    · rename_i xs _
      split at e
      · rename_i f
        rw [Bool.and_eq_true] at f
        obtain ⟨a, ys, rfl, q1, r1⟩ := ry.tupInv
        cases e
        rw [← inF_of rx f.1 r1 f.2] at q
        exact .inr (.inl ⟨a, ys, rfl, .inr q1, flat_of rx f.1, flats_of r1 f.2, q⟩)
      · cases e
    · rename_i n
      split at e
      · rename_i xs e1
        obtain ⟨a, ys, rfl, _, q1, r1⟩ := r.isLst ry e1
        split at e
        · rename_i f
          rw [Bool.and_eq_true] at f
          cases e
          rw [← inF_of rx f.1 r1 f.2] at q
          exact .inr (.inl ⟨a, ys, rfl, .inl (SqL.of q1), flat_of rx f.1, flats_of r1 f.2, q⟩)
        · split at e
          · rename_i p1 ds e2 e3
            split at e
            · rename_i f
              rw [Bool.and_eq_true] at f
              cases e
              exact .inr (.inr ⟨p1, ds, toPy_ok r 66 x p1 v e2 rx, toPy_ok r 66 (.ref n) _ _ e3 ry, f.1, f.2, q⟩)
            · cases e
          · cases e
      · cases e
    · cases e
end
theorem map_id' {b : Option Bool} : b = b.map fun b => if false = true then !b else b := by cases b <;> rfl
theorem map_not' {b : Option Bool} : b.map not = b.map fun b => if true = true then !b else b := by cases b <;> rfl

theorem opC_ok (X : Cx) (Z : Zx) (hK : Z.K = X.K) (hu : X.A.units + 65 < cLine) (op : CmpOp) : ∃ r, OpR X (compareOp op) r ∧ OpS Z r (opC op) := by
  cases op with
  | Lt =>
    refine ⟨_, OpR.ror op_lt op_lt_str, fun io h H st x y dx dy Q r rx ry p => ?_⟩
    cases dx <;> cases dy <;> (try exact False.elim p) <;> cases rx <;> cases ry
    · exact .inl ⟨_, _, rfl, rfl, p.here r (.bl _)⟩
    · exact .inr ⟨_, _, rfl, rfl, p.here r (.bl _)⟩
  | LtE =>
    refine ⟨_, OpR.ror op_le op_le_str, fun io h H st x y dx dy Q r rx ry p => ?_⟩
    cases dx <;> cases dy <;> (try exact False.elim p) <;> cases rx <;> cases ry
    · exact .inl ⟨_, _, rfl, rfl, p.here r (.bl _)⟩
    · exact .inr ⟨_, _, rfl, rfl, p.here r (.bl _)⟩
  | Gt =>
    refine ⟨_, OpR.ror op_gt op_gt_str, fun io h H st x y dx dy Q r rx ry p => ?_⟩
    cases dx <;> cases dy <;> (try exact False.elim p) <;> cases rx <;> cases ry
    · exact .inl ⟨_, _, rfl, rfl, p.here r (.bl _)⟩
    · exact .inr ⟨_, _, rfl, rfl, p.here r (.bl _)⟩
  | GtE =>
    refine ⟨_, OpR.ror op_ge op_ge_str, fun io h H st x y dx dy Q r rx ry p => ?_⟩
    cases dx <;> cases dy <;> (try exact False.elim p) <;> cases rx <;> cases ry
    · exact .inl ⟨_, _, rfl, rfl, p.here r (.bl _)⟩
    · exact .inr ⟨_, _, rfl, rfl, p.here r (.bl _)⟩
  | Is =>
    refine ⟨_, OpR.ror op_isN op_isBl, fun io h H st x y dx dy Q r rx ry p => ?_⟩
    cases dx <;> cases dy <;> (try exact False.elim p) <;> cases rx <;> cases ry <;> first | exact .inl ⟨rfl, p.here r (.bl _)⟩ | exact .inr ⟨_, _, rfl, rfl, p.here r (.bl _)⟩
  | IsNot =>
    refine ⟨_, OpR.ror op_notN op_notBl, fun io h H st x y dx dy Q r rx ry p => ?_⟩
    cases dx <;> cases dy <;> (try exact False.elim p) <;> cases rx <;> cases ry <;> first | exact .inl ⟨rfl, p.here r (.bl _)⟩ | exact .inr ⟨_, _, rfl, rfl, p.here r (.bl _)⟩
  | Eq =>
    refine ⟨_, OpR.ror op_eq (op_eqD (by omega)), fun io h H st x y dx dy Q r rx ry p => ?_⟩
    rw [← hK]
    have gen : PostR Z io H st (DRel Z.K) (retB (eqD h dx dy) h) Q → ror rEq (rEqD Z.K) x y H Q := fun p => by
      rw [map_id' (b := eqD h dx dy)] at p
      obtain ⟨d, e, h1, h2, h3, h4, q⟩ := eqD_post r rx ry p
      exact .inr ⟨d, e, h1, h2, h3, h4, q⟩
    cases dx with
    | int i =>
      cases dy with
      | int j =>
        cases rx; cases ry
        refine .inl ⟨rfl, ?_⟩
        have q := PostR.here (rel := DRel Z.K) p r (.bl _)
        rw [show decide (V.int i = V.int j) = decide (i = j) by simp]
        exact q
      | _ => exact gen p
    | str i =>
      cases dy with
      | str j =>
        cases rx; cases ry
        refine .inl ⟨rfl, ?_⟩
        have q := PostR.here (rel := DRel Z.K) p r (.bl _)
        rw [show decide (V.str i = V.str j) = decide (i = j) by simp]
        exact q
      | _ => exact gen p
    | bl i =>
      cases dy with
      | bl j =>
        cases rx; cases ry
        refine .inl ⟨rfl, ?_⟩
        have q := PostR.here (rel := DRel Z.K) p r (.bl _)
        rw [show decide (V.bl i = V.bl j) = decide (i = j) by simp]
        exact q
      | _ => exact gen p
    | _ => exact gen p
  | NotEq =>
    refine ⟨_, OpR.ror op_ne (op_neD (by omega)), fun io h H st x y dx dy Q r rx ry p => ?_⟩
    rw [← hK]
    have gen : PostR Z io H st (DRel Z.K) (retB ((eqD h dx dy).map not) h) Q → ror rNe (rNeD Z.K) x y H Q := fun p => by
      rw [map_not' (b := eqD h dx dy)] at p
      obtain ⟨d, e, h1, h2, h3, h4, q⟩ := eqD_post r rx ry p
      exact .inr ⟨d, e, h1, h2, h3, h4, q⟩
    cases dx with
    | int i =>
      cases dy with
      | int j =>
        cases rx; cases ry
        refine .inl ⟨rfl, ?_⟩
        have q := PostR.here (rel := DRel Z.K) p r (.bl _)
        rw [show decide (V.int i = V.int j) = decide (i = j) by simp]
        exact q
      | _ => exact gen p
    | str i =>
      cases dy with
      | str j =>
        cases rx; cases ry
        refine .inl ⟨rfl, ?_⟩
        have q := PostR.here (rel := DRel Z.K) p r (.bl _)
        rw [show decide (V.str i = V.str j) = decide (i = j) by simp]
        exact q
      | _ => exact gen p
    | bl i =>
      cases dy with
      | bl j =>
        cases rx; cases ry
        refine .inl ⟨rfl, ?_⟩
        have q := PostR.here (rel := DRel Z.K) p r (.bl _)
        rw [show decide (V.bl i = V.bl j) = decide (i = j) by simp]
        exact q
      | _ => exact gen p
    | _ => exact gen p
  | In =>
    refine ⟨_, OpR.ror op_inStr (OpR.ror op_in_seq (op_inD hu)), fun io h H st x y dx dy Q r rx ry p => ?_⟩
    rw [← hK]
    have p : PostR Z io H st (DRel Z.K) (retB (inD h dx dy) h) Q := p
    rw [map_id' (b := inD h dx dy)] at p
    rcases inD_post r rx ry p with q | q | ⟨d, ds, h1, h2, h3, h4, q⟩
    · exact .inl q
    · exact .inr (.inl q)
    · exact .inr (.inr ⟨d, ds, h1, h2, h3, h4, q⟩)
  | NotIn =>
    refine ⟨_, OpR.ror op_notInStr (OpR.ror op_notIn_seq (op_notInD hu)), fun io h H st x y dx dy Q r rx ry p => ?_⟩
    rw [← hK]
    have p : PostR Z io H st (DRel Z.K) (retB ((inD h dx dy).map not) h) Q := p
    rw [map_not' (b := inD h dx dy)] at p
    rcases inD_post r rx ry p with q | q | ⟨d, ds, h1, h2, h3, h4, q⟩
    · exact .inl q
    · exact .inr (.inl q)
    · exact .inr (.inr ⟨d, ds, h1, h2, h3, h4, q⟩)
end PyI
-- PyD
/-! PyD: built-in functions -/
namespace PyI
open PySem PySem.Spec PyProof.Rows L2

def listOf (h : DH) : D → Option (List D)
  | .tup xs => some xs
  | .scr ns => some (ns.map .int)
  | .ref n => match h[n]? with
    | some (.lst xs) => some xs
    | _ => none
  | _ => none
def intsOf : List D → Option (List Int)
  | [] => some []
  | .int i :: r => (intsOf r).map (i :: ·)
  | _ => none
def boolsOf : List D → Option (List Bool)
  | [] => some []
  | .bl i :: r => (boolsOf r).map (i :: ·)
  | _ => none
def strsOf : List D → Option (List Str)
  | [] => some []
  | .str i :: r => (strsOf r).map (i :: ·)
  | _ => none
def charsD (x : Str) : List D := x.cps.toList.map fun c => .str ⟨#[c]⟩
def listOfS (h : DH) : D → Option (List D)
  | .str z => if z.length ≤ 16777216 then some (charsD z) else none
  | d => listOf h d
def rowsOf : List D → Option (List (List Int))
  | [] => some []
  | .tup ds :: r => match intsOf ds with
    | some (x :: l) => (rowsOf r).map ((x :: l) :: ·)
    | _ => none
  | _ => none
def strLe (x y : Str) : Bool := decide (x.cps.toList ≤ y.cps.toList)
def rowLe (x y : List Int) : Bool := decide (x ≤ y)
def sortPy (l : List D) : Option (List D) := match strsOf l with
  | some ss => some ((ss.mergeSort strLe).map .str)
  | none => (rowsOf l).map fun rs => (rs.mergeSort rowLe).map fun r => .tup (r.map .int)
def lenLe (x y : Str) : Bool := decide ((x.length : Int) ≤ (y.length : Int))
def ins (a : Int) : List Int → List Int
  | [] => [a]
  | b :: l => if a ≤ b then a :: b :: l else b :: ins a l
def isort : List Int → List Int
  | [] => []
  | a :: l => ins a (isort l)
def maxL : List Int → Option Int
  | [] => none
  | a :: l => match maxL l with
    | none => some a
    | some m => some (if a ≤ m then m else a)
def minL : List Int → Option Int
  | [] => none
  | a :: l => match minL l with
    | none => some a
    | some m => some (if m ≤ a then m else a)
inductive Ty where
  | non | bool | int | str | tuple | list | dict
  deriving DecidableEq
def tyStr : Ty → String
  | .non => "NoneType" | .bool => "bool" | .int => "int" | .str => "str" | .tuple => "tuple" | .list => "list" | .dict => "dict"
def tyOf (h : DH) : D → Option Ty
  | .non => some .non
  | .bl _ => some .bool
  | .int _ => some .int
  | .str _ => some .str
  | .tup _ => some .tuple
  | .scr _ => some .list
  | .ref n => match h[n]? with
    | some (.lst _) => some .list
    | some (.dic _) => some .dict
    | _ => none
  | _ => none
def isTy (t : Ty) (n : String) : Option Bool :=
  if n = "int" then some (decide (t = .int) || decide (t = .bool)) else if n = "bool" then some (decide (t = .bool)) else if n = "tuple" then some (decide (t = .tuple))
  else if n = "str" then some (decide (t = .str)) else if n = "list" then some (decide (t = .list)) else if n = "dict" then some (decide (t = .dict)) else none
/- a bound of how long a repr is -/
mutual
def rsz : PyData → Nat
  | .none | .bool _ => 5
  | .int i => if i.natAbs < 1099511627776 then 41 else 1921
  | .str x => 10 * x.length + 2
  | .list xs | .tuple xs => rszs xs + 3
  | .dict _ => 100000000
def rszs : List PyData → Nat
  | [] => 0
  | x :: xs => rsz x + 2 + rszs xs
end
mutual
def cpsOk : PyData → Bool
  | .str x => x.cps.toList.all fun c => decide (c < 4294967296)
  | .list xs | .tuple xs => cpsOks xs
  | .dict _ => false
  | _ => true
def cpsOks : List PyData → Bool
  | [] => true
  | x :: xs => cpsOk x && cpsOks xs
end
inductive Blt where
  | len | abs | max | min | int | divmod | isinst | list | tuple | all | any | sum | sorted | repr | str
  deriving DecidableEq
def bltV : Blt → Value
  | .len => .builtin "len" | .abs => .builtin "abs" | .max => .builtin "max" | .min => .builtin "min" | .int => .type "int" | .divmod => .builtin "divmod" | .isinst => .builtin "isinstance"
  | .list => .type "list" | .tuple => .type "tuple" | .all => .builtin "all" | .any => .builtin "any" | .sum => .builtin "sum" | .sorted => .builtin "sorted" | .repr => .builtin "repr" | .str => .type "str"
def bltOf (x : Str) : Option Blt :=
  if x = "len" then some .len else if x = "abs" then some .abs else if x = "max" then some .max else if x = "min" then some .min else if x = "int" then some .int else if x = "divmod" then some .divmod
  else if x = "isinstance" then some .isinst else if x = "list" then some .list else if x = "tuple" then some .tuple else if x = "all" then some .all else if x = "any" then some .any
  else if x = "sum" then some .sum else if x = "sorted" then some .sorted else if x = "repr" then some .repr else if x = "str" then some .str else none
def isi (h : DH) (x : D) (n : String) : Option Bool := (tyOf h x).bind fun t => isTy t n
def retD (d : Option D) (h : DH) : Res D := match d with
  | some d => .ok d h
  | none => .no
def reprOf (h : DH) (x : D) : Option Str := (toPy 66 h x).bind fun p => if p.showable && SeqAt.shaped p && cpsOk p && decide (rsz p ≤ 1000000) then some p.shown else none
noncomputable def bltF (b : Blt) (xs : List D) (h : DH) : Res D :=
  match b with
  | .len => match xs with
    | [.str a] => if a.length ≤ 16777216 then .ok (.int a.length) h else .no
    | [x] => retD ((listOf h x).map fun l => .int l.length) h
    | _ => .no
  | .abs => match xs with
    | [.int i] => .ok (.int (if i < 0 then -i else i)) h
    | _ => .no
  | .max => match xs with
    | [.int i, .int j] => .ok (.int (if j > i then j else i)) h
    | [.ref n] => retD (((listOf h (.ref n)).bind intsOf).bind maxL |>.map .int) h
    | [.tup ds] => retD (((intsOf ds).bind maxL).map .int) h
    | _ => .no
  | .min => match xs with
    | [.int i, .int j] => .ok (.int (if j < i then j else i)) h
    | [.ref n] => retD (((listOf h (.ref n)).bind intsOf).bind minL |>.map .int) h
    | [.tup ds] => retD (((intsOf ds).bind minL).map .int) h
    | _ => .no
  | .int => match xs with
    | [.int i] => .ok (.int i) h
    | [.bl k] => .ok (.int (if k then 1 else 0)) h
    | [.str a] => if a.length ≤ 640 then retD ((PySem.intText? a).map .int) h else .no
    | _ => .no
  | .divmod => match xs with
    | [.int i, .int j] => if 0 < j ∧ j < hid 1267650600228229401496703205376 then .ok (.tup [.int (i / j), .int (i % j)]) h else .no
    | _ => .no
  | .isinst => match xs with
    | [x, .ty n] => retD ((isi h x n).map .bl) h
    | _ => .no
  | .list => match xs with
    | [x] => match listOfS h x with
      | some l => .ok (.ref h.length) (h ++ [.lst l])
      | none => .no
    | _ => .no
  | .tuple => match xs with
    | [x] => retD ((listOf h x).map .tup) h
    | _ => .no
  | .all => match xs with
    | [.ref n] => retD (((listOf h (.ref n)).bind boolsOf).map fun l => .bl (l.all id)) h
    | _ => .no
  | .any => match xs with
    | [.ref n] => retD (((listOf h (.ref n)).bind boolsOf).map fun l => .bl (l.any id)) h
    | _ => .no
  | .sum => match xs with
    | [.ref n] => retD (((listOf h (.ref n)).bind intsOf).map fun l => .int l.sum) h
    | _ => .no
  | .sorted => match xs with
    | [x] => match (listOf h x).bind intsOf with
      | some l => .ok (.ref h.length) (h ++ [.lst ((isort l).map .int)])
      | none => match x with
        | .ref n => match (listOf h (.ref n)).bind sortPy with
          | some l => .ok (.ref h.length) (h ++ [.lst l])
          | none => .no
        | _ => .no
    | _ => .no
  | .repr => match xs with
    | [x] => retD ((reprOf h x).map .str) h
    | _ => .no
  | .str => match xs with
    | [.int i] => if i.natAbs.log2 < 1920 then .ok (.str (toString i)) h else .no
    | [.str a] => .ok (.str a) h
    | _ => .no

/-! ### the mathematics -/
theorem ins_perm (a : Int) : ∀ l : List Int, (ins a l).Perm (a :: l)
  | [] => List.Perm.refl _
  | b :: l => by
    unfold ins
    split
    · exact List.Perm.refl _
    · exact ((ins_perm a l).cons b).trans (List.Perm.swap a b l)
theorem isort_perm : ∀ l : List Int, (isort l).Perm l
  | [] => List.Perm.refl _
  | a :: l => (ins_perm a (isort l)).trans ((isort_perm l).cons a)
theorem ins_pw (a : Int) : ∀ l : List Int, l.Pairwise (· ≤ ·) → (ins a l).Pairwise (· ≤ ·)
  | [], _ => by simp [ins]
  | b :: l, h => by
    rw [List.pairwise_cons] at h
    unfold ins
    split
    · rename_i c
      rw [List.pairwise_cons, List.pairwise_cons]
      refine ⟨fun x hx => ?_, h⟩
      rcases List.mem_cons.mp hx with rfl | hx
      · exact c
      · have := h.1 x hx
        omega
    · rename_i c
      rw [List.pairwise_cons]
      refine ⟨fun x hx => ?_, ins_pw a l h.2⟩
      rcases List.mem_cons.mp ((ins_perm a l).mem_iff.mp hx) with rfl | hx
      · omega
      · exact h.1 x hx
theorem isort_pw : ∀ l : List Int, (isort l).Pairwise (· ≤ ·)
  | [] => List.Pairwise.nil
  | a :: l => ins_pw a _ (isort_pw l)
theorem isort_uniq {l m : List Int} (p : m.Perm l) (s : m.Pairwise (· ≤ ·)) : m = isort l := PySem.W.ksm_same (p.trans (isort_perm l).symm) s (isort_pw l)
theorem maxL_spec : ∀ {l : List Int} {m : Int}, maxL l = some m → m ∈ l ∧ ∀ y ∈ l, y ≤ m
  | [], m, h => by cases h
  | a :: l, m, h => by
    unfold maxL at h
    cases e : maxL l with
    | none =>
      rw [e] at h
      cases h
      cases l with
      | nil => simp
      | cons b t => unfold maxL at e; split at e <;> cases e
    | some k =>
      rw [e] at h
      obtain ⟨h1, h2⟩ := maxL_spec e
      have h := Option.some.inj h
      refine ⟨?_, fun y hy => ?_⟩
      · split at h <;> (subst h; first | exact List.mem_cons_of_mem _ h1 | exact List.mem_cons_self)
      · rcases List.mem_cons.mp hy with rfl | hy
        · split at h <;> omega
        · have := h2 y hy
          split at h <;> omega
theorem minL_spec : ∀ {l : List Int} {m : Int}, minL l = some m → m ∈ l ∧ ∀ y ∈ l, m ≤ y
  | [], m, h => by cases h
  | a :: l, m, h => by
    unfold minL at h
    cases e : minL l with
    | none =>
      rw [e] at h
      cases h
      cases l with
      | nil => simp
      | cons b t => unfold minL at e; split at e <;> cases e
    | some k =>
      rw [e] at h
      obtain ⟨h1, h2⟩ := minL_spec e
      have h := Option.some.inj h
      refine ⟨?_, fun y hy => ?_⟩
      · split at h <;> (subst h; first | exact List.mem_cons_of_mem _ h1 | exact List.mem_cons_self)
      · rcases List.mem_cons.mp hy with rfl | hy
        · split at h <;> omega
        · have := h2 y hy
          split at h <;> omega
section
variable {K : PySem.W.Frag} {io : List Addr} {h : DH} {H : Hp}
theorem intsOf_rel : ∀ {ds : List D} {ns : List Int} {vs : List V}, intsOf ds = some ns → DRels K io H vs ds → vs = ns.map V.int
  | [], ns, vs, e, r => by cases r; cases e; rfl
  | d :: ds, ns, vs, e, r => by
    cases r with
    | cons q r =>
      cases d with
      | int i =>
        cases q
        cases e2 : intsOf ds with
        | none => simp [intsOf, e2] at e
        | some l =>
          simp [intsOf, e2] at e
          subst e
          rw [intsOf_rel e2 r]
          rfl
      | _ => simp [intsOf] at e
theorem boolsOf_rel : ∀ {ds : List D} {ns : List Bool} {vs : List V}, boolsOf ds = some ns → DRels K io H vs ds → vs = ns.map V.bl
  | [], ns, vs, e, r => by cases r; cases e; rfl
  | d :: ds, ns, vs, e, r => by
    cases r with
    | cons q r =>
      cases d with
      | bl i =>
        cases q
        cases e2 : boolsOf ds with
        | none => simp [boolsOf, e2] at e
        | some l =>
          simp [boolsOf, e2] at e
          subst e
          rw [boolsOf_rel e2 r]
          rfl
      | _ => simp [boolsOf] at e
theorem strsOf_rel : ∀ {ds : List D} {ns : List Str} {vs : List V}, strsOf ds = some ns → DRels K io H vs ds → vs = ns.map V.str
  | [], ns, vs, e, r => by cases r; cases e; rfl
  | d :: ds, ns, vs, e, r => by
    cases r with
    | cons q r =>
      cases d with
      | str i =>
        cases q
        cases e2 : strsOf ds with
        | none => simp [strsOf, e2] at e
        | some l =>
          simp [strsOf, e2] at e
          subst e
          rw [strsOf_rel e2 r]
          rfl
      | _ => simp [strsOf] at e
theorem intsRel : ∀ ns : List Int, DRels K io H (ns.map V.int) (ns.map D.int)
  | [] => .nil
  | n :: ns => .cons (.int n) (intsRel ns)
theorem listOf_rel {v : V} {d : D} {ds : List D} (r : R K io h H) (q : DRel K io H v d) (e : listOf h d = some ds) : ∃ p xs, v = .ref p ∧ (SqL K H p xs ∨ SqT K H p xs) ∧ DRels K io H xs ds := by
  cases d with
  | tup xs =>
    cases q with
    | tup hs hr => cases e; exact ⟨_, _, rfl, .inr hs, hr⟩
  | scr ns =>
    cases q with
    | scr hs => cases e; exact ⟨_, _, rfl, .inl hs.l, intsRel ns⟩
  | ref n =>
    unfold listOf at e
    simp only at e
    split at e
    · rename_i xs e1
      cases e
      obtain ⟨a, ys, rfl, _, hy, ry⟩ := r.isLst q e1
      exact ⟨a, ys, rfl, .inl (SqL.of hy), ry⟩
    · cases e
  | _ => cases e
theorem listRef_rel {v : V} {n : Nat} {ds : List D} (r : R K io h H) (q : DRel K io H v (.ref n)) (e : listOf h (.ref n) = some ds) : ∃ p xs, v = .ref p ∧ SqL K H p xs ∧ DRels K io H xs ds := by
  unfold listOf at e
  simp only at e
  split at e
  · rename_i xs e1
    cases e
    obtain ⟨a, ys, rfl, _, hy, ry⟩ := r.isLst q e1
    exact ⟨a, ys, rfl, SqL.of hy, ry⟩
  · cases e
theorem isTy_ok {t : Ty} {n : String} {b : Bool} (e : isTy t n = some b) : kitB (tyStr t) n = some b := by
  unfold isTy at e
  repeat' split at e
  all_goals first | (cases e; done) | skip
  all_goals (subst n; cases e; cases t <;> decide +kernel)
theorem ty_rel {v : V} {d : D} {t : Ty} (r : R K io h H) (q : DRel K io H v d) (e : tyOf h d = some t) : TyX K H v (.type (tyStr t)) := by
  cases d with
  | non => cases q; cases e; exact .base .non
  | bl b => cases q; cases e; exact .base (.bl b)
  | int b => cases q; cases e; exact .base (.int b)
  | str b => cases q; cases e; exact .base (.str b)
  | tup xs =>
    cases q with
    | tup hs hr =>
      cases e
      rcases hs with (hs | ⟨o, hs⟩) | ⟨o, its, n, hk, hc, _⟩
      · exact .base (.tup hs)
      · exact .fTuple hs
      · exact .kTuple hk hc
  | scr ns =>
    cases q with
    | scr hs =>
      cases e
      rcases hs with ⟨o, hs⟩ | ⟨o, its, n, hk, hc, _⟩
      · exact .base (.frz hs)
      · exact .kList hk hc
  | ref n =>
    cases q with
    | ref qa =>
      obtain ⟨x, e1, q1⟩ := r.at qa
      unfold tyOf at e
      simp only [e1] at e
      cases x with
      | lst xs => cases e; obtain ⟨ys, hy, _⟩ := q1; exact .base (.lst hy)
      | dic kvs => cases e; obtain ⟨ys, hy, _⟩ := q1; exact .base (.dK hy)
  | _ => cases e
end
/-! ### the length of a repr -/
theorem tupText_le (ts : List Str) : (tupleText ts).length ≤ piled ts + 3 := by
  have e3 : (((if ts.length == 1 then ",)" else ")" : String) : Str)).length ≤ 2 := by split <;> decide +kernel
  have e1 : ((("(" : String) : Str)).length = 1 := rfl
  unfold tupleText
  rw [strLen_append, strLen_append, e1]
  by_cases h : ts = []
  · subst h
    decide +kernel
  · have := join_length_add ts h
    omega
theorem lstText_le (ts : List Str) : (listText ts).length ≤ piled ts + 3 := by
  unfold listText
  rw [strLen_append]
  have e1 : ((("[" : String) : Str)).length = 1 := rfl
  have e2 : ((("]" : String) : Str)).length = 1 := rfl
  rw [e2]
  cases ts with
  | nil => show ((("[" : String) : Str)).length + 1 ≤ _; rw [e1]; omega
  | cons a l =>
    show (textFrom 1 (("[" : Str) ++ (if 0 > 0 then ", " else "" : String) ++ a) l).length + 1 ≤ _
    rw [textFrom_length_pos _ _ _ (by decide), strLen_append, strLen_append, e1, piled_cons]
    have e3 : ((((if 0 > 0 then ", " else "" : String)) : Str)).length = 0 := rfl
    rw [e3]
    omega
theorem log40 {n : Nat} (h : n < 1099511627776) : n.log2 < 40 := by
  by_cases e : n = 0
  · subst e; decide
  · exact (Nat.log2_lt e).mpr h
mutual
theorem rsz_le : ∀ p : PyData, p.showable = true → cpsOk p = true → p.shown.length ≤ rsz p
  | .none, _, _ => by decide +kernel
  | .bool b, _, _ => by cases b <;> decide +kernel
  | .int i, h, _ => by
    have h' : i.natAbs.log2 < 1920 := by simpa [PyData.showable] using h
    simp only [PyData.shown, rsz]
    have e : ((toString i : String) : Str).length = (toString i).length := PySem.ofString_length _
    by_cases c : i.natAbs < 1099511627776
    · rw [if_pos c]
      have := PySem.int_text_length_le (k := 40) (by decide) (log40 c)
      rw [PySem.ofString_length]
      omega
    · rw [if_neg c]
      have := PySem.int_text_length_le (k := 1920) (by decide) h'
      rw [PySem.ofString_length]
      omega
  | .str x, _, c => by
    simp only [PyData.shown, rsz]
    refine StrLaws.reprText_len x fun k hk => ?_
    have c' : (x.cps.toList.all fun c => decide (c < 4294967296)) = true := by simpa [cpsOk] using c
    have := of_decide_eq_true (List.all_eq_true.mp c' k hk)
    omega
  | .list xs, h, c => by
    simp only [PyData.shown, rsz]
    have h1 := rszs_le xs (by simpa [PyData.showable] using h) (by simpa [cpsOk] using c)
    have h2 := lstText_le (PyData.shownAll xs)
    omega
  | .tuple xs, h, c => by
    simp only [PyData.shown, rsz]
    have h1 := rszs_le xs (by simpa [PyData.showable] using h) (by simpa [cpsOk] using c)
    have h2 := tupText_le (PyData.shownAll xs)
    omega
  | .dict _, _, c => by simp [cpsOk] at c
theorem rszs_le : ∀ xs : List PyData, PyData.showableAll xs = true → cpsOks xs = true → piled (PyData.shownAll xs) ≤ rszs xs
  | [], _, _ => by simp [PyData.shownAll, rszs, piled]
  | x :: xs, h, c => by
    have h' : x.showable = true ∧ PyData.showableAll xs = true := by simpa [PyData.showableAll] using h
    have c' : cpsOk x = true ∧ cpsOks xs = true := by simpa [cpsOks] using c
    have h1 := rsz_le x h'.1 c'.1
    have h2 := rszs_le xs h'.2 c'.2
    simp only [PyData.shownAll, rszs, piled_cons]
    omega
end
end PyI
-- PyD1
/-! PyD1: max and min of a tuple of ints -/
namespace PyI
open PySem PySem.Spec PyProof.Rows L2
section
variable {prog : Program} {w : World} {A : Around} {E : Value → Shared → Prop} {s : Shared} {l : Addr} {xs : Array (Int × Tok)} {its : List Value} {ns : List Int}
theorem max_intTup {Q : Value → Shared → Prop} (hh : A.handled = none) (hl : s.heap.IsTuple l (intItems xs)) (hne : 0 < xs.size)
    (h : ∀ v h' tk, (intItems xs)[argBest (fun i j => decide (numAt xs i > numAt xs j)) (xs.size - 1)]? = some v → (∀ b o, s.heap.get? b = some o → h'.get? b = some o) → Q v { s with heap := h', toks := tk }) :
    wpAny (model prog w) A (call (.builtin "max") [.ref l]) Q E s := by
  have hlt : l < s.heap.objs.size := by obtain ⟨_, e, _⟩ := hl; exact Heap.lt_size e
  refine call_max_walk (wpAny_pyIter_tuple hl ?_)
  refine ⟨_, _, _, _, _, _, _, rfl, Walks.tuple (A := A.in1) hh _ l (Nat.ne_of_lt hlt) (intItems xs), ⟨⟨_, Heap.get?_push_size _ rfl, rfl, rfl⟩, hl.push _⟩, fun b hb => ?_, by simpa [intItems] using hne, CmpOf.ints_gt (numAt xs) (fun _ _ => intItems_at), fun v h' tk hP hk => ?_⟩
  · show b < (s.heap.push _).objs.size
    rw [Heap.size_push]
    rcases List.mem_cons.mp hb with rfl | hb
    · exact Nat.lt_succ_self _
    · rcases List.mem_cons.mp hb with rfl | hb
      · exact Nat.lt_succ_of_lt hlt
      · cases hb
  · refine h v h' tk (by simpa [intItems] using hP) fun b o e => hk b o (fun hm => ?_) (Heap.get?_push_of_some _ e)
    rcases List.mem_cons.mp hm with e1 | hm
    · exact absurd (e1 ▸ Heap.lt_size e) (Nat.lt_irrefl _)
    · cases hm
theorem min_intTup {Q : Value → Shared → Prop} (hh : A.handled = none) (hl : s.heap.IsTuple l (intItems xs)) (hne : 0 < xs.size)
    (h : ∀ v h' tk, (intItems xs)[argBest (fun i j => decide (numAt xs i < numAt xs j)) (xs.size - 1)]? = some v → (∀ b o, s.heap.get? b = some o → h'.get? b = some o) → Q v { s with heap := h', toks := tk }) :
    wpAny (model prog w) A (call (.builtin "min") [.ref l]) Q E s := by
  have hlt : l < s.heap.objs.size := by obtain ⟨_, e, _⟩ := hl; exact Heap.lt_size e
  refine call_min_walk (wpAny_pyIter_tuple hl ?_)
  refine ⟨_, _, _, _, _, _, _, rfl, Walks.tuple (A := A.in1) hh _ l (Nat.ne_of_lt hlt) (intItems xs), ⟨⟨_, Heap.get?_push_size _ rfl, rfl, rfl⟩, hl.push _⟩, fun b hb => ?_, by simpa [intItems] using hne, CmpOf.ints_lt (numAt xs) (fun _ _ => intItems_at), fun v h' tk hP hk => ?_⟩
  · show b < (s.heap.push _).objs.size
    rw [Heap.size_push]
    rcases List.mem_cons.mp hb with rfl | hb
    · exact Nat.lt_succ_self _
    · rcases List.mem_cons.mp hb with rfl | hb
      · exact Nat.lt_succ_of_lt hlt
      · cases hb
  · refine h v h' tk (by simpa [intItems] using hP) fun b o e => hk b o (fun hm => ?_) (Heap.get?_push_of_some _ e)
    rcases List.mem_cons.mp hm with e1 | hm
    · exact absurd (e1 ▸ Heap.lt_size e) (Nat.lt_irrefl _)
    · cases hm
theorem max_rawT {Q : Value → Shared → Prop} (hh : A.handled = none) (hl : s.heap.IsTuple l its.toArray) (hi : IntsAre its ns) (hne : 0 < ns.length)
    (h : ∀ h' tk M t', (∀ b o, s.heap.get? b = some o → h'.get? b = some o) → M ∈ ns → (∀ a, a ∈ ns → a ≤ M) → Q (.int M t') { s with heap := h', toks := tk }) : wpAny (model prog w) A (call (.builtin "max") [.ref l]) Q E s := by
  obtain ⟨xs, e⟩ := hi.allInts.items
  have hn : numsOf (intItems xs).toList = ns := by rw [← e]; exact hi.numsOf
  rw [nums_intItems] at hn
  subst hn
  rw [e] at hl
  have hsz : 0 < xs.size := by simpa using hne
  refine max_intTup hh hl hsz fun v h' tk hv hk => ?_
  obtain ⟨t, rfl⟩ := intItems_at hv
  obtain ⟨h1, h2⟩ := argBest_gt (numAt xs) (xs.size - 1)
  refine h h' tk _ t hk ?_ fun a ha => ?_
  · rw [numAt_eq]; exact PySem.getD_mem (by rw [List.length_map, Array.length_toList]; omega)
  · obtain ⟨j, hj, rfl⟩ := mem_getD ha
    rw [List.length_map, Array.length_toList] at hj
    rw [← numAt_eq]; exact h2 j (by omega)
theorem min_rawT {Q : Value → Shared → Prop} (hh : A.handled = none) (hl : s.heap.IsTuple l its.toArray) (hi : IntsAre its ns) (hne : 0 < ns.length)
    (h : ∀ h' tk M t', (∀ b o, s.heap.get? b = some o → h'.get? b = some o) → M ∈ ns → (∀ a, a ∈ ns → M ≤ a) → Q (.int M t') { s with heap := h', toks := tk }) : wpAny (model prog w) A (call (.builtin "min") [.ref l]) Q E s := by
  obtain ⟨xs, e⟩ := hi.allInts.items
  have hn : numsOf (intItems xs).toList = ns := by rw [← e]; exact hi.numsOf
  rw [nums_intItems] at hn
  subst hn
  rw [e] at hl
  have hsz : 0 < xs.size := by simpa using hne
  refine min_intTup hh hl hsz fun v h' tk hv hk => ?_
  obtain ⟨t, rfl⟩ := intItems_at hv
  obtain ⟨h1, h2⟩ := argBest_lt (numAt xs) (xs.size - 1)
  refine h h' tk _ t hk ?_ fun a ha => ?_
  · rw [numAt_eq]; exact PySem.getD_mem (by rw [List.length_map, Array.length_toList]; omega)
  · obtain ⟨j, hj, rfl⟩ := mem_getD ha
    rw [List.length_map, Array.length_toList] at hj
    rw [← numAt_eq]; exact h2 j (by omega)
end
theorem cr_maxT {X : Cx} (hc : X.calm = true) : CallR X (.builtin "max") (fun vs H Q => ∃ (a : Addr) (ns : List Int), vs = [V.ref a] ∧ SqT X.K H a (ns.map V.int) ∧ 0 < ns.length ∧ ∀ m, m ∈ ns → (∀ y, y ∈ ns → y ≤ m) → Q (.int m) H) := by
  intro pins s σ H vs us Q I r h
  obtain ⟨a, ns, rfl, hs, hne, q⟩ := h
  obtain ⟨its, rv, hl, _⟩ := I.tuple hs
  rw [Vals.ref1 r]
  exact max_rawT (I.ok.hd hc) hl rv.ints hne fun h' tk m t' hk h1 h2 => ⟨.int _, H, I.kept hk, ⟨_, rfl⟩, q m h1 h2⟩
theorem cr_minT {X : Cx} (hc : X.calm = true) : CallR X (.builtin "min") (fun vs H Q => ∃ (a : Addr) (ns : List Int), vs = [V.ref a] ∧ SqT X.K H a (ns.map V.int) ∧ 0 < ns.length ∧ ∀ m, m ∈ ns → (∀ y, y ∈ ns → m ≤ y) → Q (.int m) H) := by
  intro pins s σ H vs us Q I r h
  obtain ⟨a, ns, rfl, hs, hne, q⟩ := h
  obtain ⟨its, rv, hl, _⟩ := I.tuple hs
  rw [Vals.ref1 r]
  exact min_rawT (I.ok.hd hc) hl rv.ints hne fun h' tk m t' hk h1 h2 => ⟨.int _, H, I.kept hk, ⟨_, rfl⟩, q m h1 h2⟩
/-! ### list(text) -/
def charsV (x : Str) : List V := x.cps.toList.map fun c => .str ⟨#[c]⟩
theorem vals_get : ∀ (vs : List V) (us : List Value), vs.length = us.length → (∀ (i : Nat) (v : V) (u : Value), vs[i]? = some v → us[i]? = some u → RelV v u) → Vals vs us
  | [], [], _, _ => .nil
  | [], _ :: _, h, _ => by cases h
  | _ :: _, [], h, _ => by cases h
  | v :: vs, u :: us, h, k => .cons (k 0 v u rfl rfl) (vals_get vs us (Nat.succ.inj h) fun i a b e1 e2 => k (i + 1) a b e1 e2)
theorem call_list_text {X : Cx} (hc : X.calm = true) : CallR X (.type "list") (fun xs H Q => ∃ z, xs = [.str z] ∧ z.length ≤ 16777216 ∧ ∀ l, H l = none → Q (.ref l) (upd H l (.lst (charsV z)))) := by
  intro pins s σ H xs us Q I r h
  obtain ⟨z, rfl, hz, q⟩ := h
  obtain ⟨u, rfl, t, rfl⟩ := vals1 r
  have hl := sizeLine_eq
  have hz' : z.cps.size ≤ sizeLine := by rw [hl]; exact hz
  refine call_list_str (I.ok.hd hc) z t (hn := hz') fun h' tk acc c kp e hacc => ?_
  have hv : Vals (charsV z) acc.toList := by
    refine vals_get _ _ (by unfold charsV; rw [List.length_map, Array.length_toList, Array.length_toList, hacc.1]) fun i v u e1 e2 => ?_
    rw [Array.getElem?_toList] at e2
    obtain ⟨c, k, h1, rfl⟩ := hacc.2 i u e2
    unfold charsV at e1
    rw [List.getElem?_map, Array.getElem?_toList, h1] at e1
    cases e1
    exact ⟨k, rfl⟩
  refine ⟨.ref s.heap.objs.size, _, I.laid (t' := tk) kp (Nat.le_refl _) (show ObjOk X.prog X.w _ h' _ (.lst (charsV z)) from ⟨?_, acc.toList, c, hv, by simpa using e⟩), rfl, q _ (I.hok.fresh (Nat.le_refl _))⟩
  unfold charsV
  rw [List.length_map, Array.length_toList]
  exact hz'
theorem chars_rel {K : PySem.W.Frag} {io : List Addr} {H : Hp} (z : Str) : DRels K io H (charsV z) (charsD z) := by
  unfold charsV charsD
  induction z.cps.toList with
  | nil => exact .nil
  | cons c l ih => exact .cons (.str _) ih
end PyI
-- PyD2
/-! PyD2: sorted of texts, of rows of ints, and of texts by their length -/
namespace PyI
open PySem PySem.Spec PyProof.Rows L2 PySem.W
theorem each_vals {β : Type} {f : β → V} : ∀ {ps : List β} {us : List Value}, Vals (ps.map f) us → EachIs (fun v p => RelV (f p) v) us ps
  | [], _, .nil => .nil
  | p :: ps, _, .cons r t => .cons r (each_vals t)
theorem vals_each {β : Type} {f : β → V} : ∀ {ps : List β} {us : List Value}, EachIs (fun v p => RelV (f p) v) us ps → Vals (ps.map f) us
  | _, _, .nil => .nil
  | _, _, .cons h t => .cons h (vals_each t)
section
variable {X : Cx}
theorem each_reads {pins : List (Addr × Obj)} {σ : L2.St} {H : Hp} {s : Shared} (I : Inv X pins σ H s) : ∀ {ps : List (V × PyData)} {us : List Value}, Vals (ps.map (·.1)) us → (∀ p ∈ ps, Dp X.K H p.1 p.2) → EachIs (fun v (p : V × PyData) => ∃ as, Reads s.heap v p.2 as) us ps
  | [], _, .nil, _ => .nil
  | p :: ps, _, .cons r t, h => .cons (Dp.reads I _ _ _ (h p List.mem_cons_self) r) (each_reads I t fun q hq => h q (List.mem_cons_of_mem _ hq))
def rSortedPy (K : PySem.W.Frag) : List V → Hp → VK → Prop := fun vs H Q => ∃ (a : Addr) (ps : List (V × PyData)), vs = [V.ref a] ∧ SqL K H a (ps.map (·.1)) ∧ (∀ p ∈ ps, Dp K H p.1 p.2) ∧ AllAlike (ps.map (·.2)) ∧ Sortable (ps.map (·.2)) ∧ (∀ p ∈ ps, p.2.depth ≤ 60) ∧
  ∀ q, H q = none → Q (.ref q) (upd H q (.lst ((ps.mergeSort (dataLe false (·.2))).map (·.1))))
theorem cr_sortedPy (hu : X.A.units + 66 < cLine) : CallR X (.builtin "sorted") (rSortedPy X.K) := by
  intro pins s st H vs us Q I r h
  obtain ⟨a, ps, rfl, hs, hd, hal, hk, hdep, q⟩ := h
  rw [Vals.ref1 r]
  obtain ⟨its, rv, hl, hz⟩ := I.list hs
  rw [List.length_map] at hz
  refine sorted_data (enc := fun p : V × PyData => p.2) hl.isList (each_vals rv) (each_reads I rv hd) hal hk hz (fun b hb => by have := hdep b hb; omega) fun out ho he => ?_
  obtain ⟨ep, hep⟩ := sortedAll_at s.heap its out.toArray
  have hlen : ((ps.mergeSort (dataLe false fun p : V × PyData => p.2)).map (·.1)).length ≤ sizeLine := by
    rw [List.length_map, List.length_mergeSort]; exact hz
  exact ⟨.ref _, upd H (s.heap.objs.size + 1) (.lst ((ps.mergeSort (dataLe false fun p : V × PyData => p.2)).map (·.1))), I.laid (t' := s.toks) (fun _ _ => sortedAll_old) (Nat.le_succ _) ⟨hlen, out, ep, vals_each he, hep⟩, rfl, q _ (I.hok.fresh (Nat.le_succ _))⟩
/-- sorted(xs, key=len), xs a list of texts -/
def tSortLen (K : PySem.W.Frag) (te : TE) : TE := fun σ H Q => te σ H fun x H1 => ∃ (a : Addr) (ss : List Str), x = V.ref a ∧ SqL K H1 a (ss.map V.str) ∧ (∀ z ∈ ss, z.length ≤ 16777216) ∧ ∀ q, H1 q = none → Q (.ref q) (upd H1 q (.lst ((ss.mergeSort lenLe).map V.str)))
theorem pe_sortLen {e : Expr} {te : TE} {p p2 kpos pos : Pos} (hu : X.A.units + 66 < cLine) (hg : Gl X "sorted") (hm : X.mg "sorted" = none) (hg2 : Gl X "len") (hm2 : X.mg "len" = none) (he : PE X e te) (hs : starEach [e] X.env = (false, eval e X.env) :: starEach [] X.env) :
    PE X (.Call (.Name "sorted" p) [e] [⟨some "key", .Name "len" p2, kpos⟩] pos) (tSortLen X.K te) := by
  refine ⟨fun pins s σ H Q I h => ?_⟩
  refine wpAny_Call_Name_kw (ld_blt I hg hm boot_sorted ?_)
  have hb : backTo pos (starEach [e] X.env) = (false, eval e X.env) :: backTo pos (starEach [] X.env) := by rw [hs]; rfl
  have ha : PA X [e] (tCons te tNil) := pa_cons he pa_nil hs
  refine callWith_kw (thn (ha.run pos pins s σ H (fun vs H1 => match vs with
    | [x] => ∃ (a : Addr) (ss : List Str), x = V.ref a ∧ SqL X.K H1 a (ss.map V.str) ∧ (∀ z ∈ ss, z.length ≤ 16777216) ∧ ∀ q, H1 q = none → Q (.ref q) (upd H1 q (.lst ((ss.mergeSort lenLe).map V.str)))
    | _ => False) I ?_) fun us s1 ⟨vs, H1, I1, r1, q1⟩ => ?_) hb (by rw [hb]; rfl) (by rfl) (by rfl)
  · exact h
  match vs, r1, q1 with
  | [x], r1, ⟨a, ss, ex, hq, hz, q⟩ =>
  subst ex
  obtain rfl := Vals.ref1 r1
  show wpAny _ _ (evalAll ((do let v ← eval (.Name "len" p2) X.env; standAt pos; pure v) :: [])) _ _ s1
  refine wpAny_evalAll_cons (wpAny_bind (ld_blt I1 hg2 hm2 boot_len (wpAny_bind (wpAny_standAt (wpAny_pure (wpAny_evalAll_nil ?_))))))
  show wpAny _ _ (call (.builtin "sorted") [.ref a] [(Str.ofString "key", .builtin "len")]) _ _ s1
  obtain ⟨its, rv, hl, hn⟩ := I1.list hq
  rw [List.length_map] at hn
  have hal : AllAlike (ss.map fun z : Str => PyData.int z.length) := AllAlike.of fun _ _ => rfl
  have hk : Sortable (ss.map fun z : Str => PyData.int z.length) := Sortable.others fun z => ⟨fun c => (nomatch c), fun _ c => (nomatch c)⟩
  have le : (dataLe false fun z : Str => PyData.int z.length) = lenLe := by rw [dataLe_int]; rfl
  refine sorted_key_data (fun z : Str => PyData.int z.length) hl.isList (each_vals rv) hal hk hn (fun z _ => by show X.A.units + 2 + PyData.depth (.int _) < cLine; rw [PyData.depth]; omega) (ksk_s1 _ _) (fun _ => ksk_l1 _ _) (fun x => ksk_t4 "len" x) (fun v z hv hm h tk k => ?_) fun out c h' tk k hn0 hat ho hout => ?_
  · obtain ⟨t, rfl⟩ := hv
    have zz := hz z hm
    refine PySem.P.len_str (by omega) ?_
    exact ⟨h, _, rfl, fun _ _ e => e, .int _ _⟩
  · rw [le] at hout
    have hlen : ((ss.mergeSort lenLe).map V.str).length ≤ sizeLine := by rw [List.length_map, List.length_mergeSort]; exact hn
    exact ⟨.ref _, upd H1 (s1.heap.objs.size + 1) (.lst ((ss.mergeSort lenLe).map V.str)), I1.laid (t' := tk) k (Nat.le_succ _) ⟨hlen, out, c, vals_each hout, hat⟩, rfl, q _ (I1.hok.fresh (Nat.le_succ _))⟩
end
/-! ### the mirror's side -/
theorem dataLe_tup {β : Type} (x : β → List Int) : dataLe false (fun b => .tuple ((x b).map .int)) = fun p q => decide (x p ≤ x q) := dataLe_rows x
section
variable {K : PySem.W.Frag} {io : List Addr} {H : Hp}
theorem dp_ints : ∀ l : List Int, DpAll K H (l.map V.int) (l.map PyData.int)
  | [] => .nil
  | x :: r => .cons (.int x) (dp_ints r)
/-- rows, each beside its value -/
theorem rows_rel : ∀ {ds : List D} {rs : List (List Int)} {vs : List V}, rowsOf ds = some rs → DRels K io H vs ds → ∃ ps : List (V × List Int), vs = ps.map (·.1) ∧ rs = ps.map (·.2) ∧ ∀ p ∈ ps, Dp K H p.1 (.tuple (p.2.map .int)) ∧ DRel K io H p.1 (.tup (p.2.map .int)) ∧ ∃ x l, p.2 = x :: l
  | [], rs, vs, e, r => by
    cases r; cases e
    exact ⟨[], rfl, rfl, by simp⟩
  | d :: ds, rs, vs, e, r => by
    cases r with
    | cons q t =>
      cases d with
      | tup es =>
        unfold rowsOf at e
        split at e
        · rename_i x l hx
          obtain ⟨rs', e', rfl⟩ : ∃ rs', rowsOf ds = some rs' ∧ (x :: l) :: rs' = rs := by
            cases z : rowsOf ds with
            | none => rw [z] at e; cases e
            | some w => rw [z] at e; exact ⟨w, rfl, Option.some.inj e⟩
          obtain ⟨ps, h1, h2, h3⟩ := rows_rel e' t
          cases q with
          | @tup a xs _ hs rx =>
          have hv := intsOf_rel hx rx
          have hds : es = (x :: l).map D.int := by
            have : ∀ {es : List D} {ns : List Int}, intsOf es = some ns → es = ns.map D.int := by
              intro es
              induction es with
              | nil => intro ns h; cases h; rfl
              | cons d es ih =>
                intro ns h
                cases d with
                | int i =>
                  cases z : intsOf es with
                  | none => simp [intsOf, z] at h
                  | some w => simp [intsOf, z] at h; subst h; rw [ih z]; rfl
                | _ => simp [intsOf] at h
            exact this hx
          subst hv hds
          refine ⟨(.ref a, x :: l) :: ps, by rw [h1]; rfl, by rw [h2]; rfl, fun p hp => ?_⟩
          rcases List.mem_cons.mp hp with rfl | hp
          · exact ⟨.tup hs (dp_ints _), .tup hs rx, x, l, rfl⟩
          · exact h3 p hp
        · cases e
      | _ => cases e
theorem rows_back : ∀ ps : List (V × List Int), (∀ p ∈ ps, DRel K io H p.1 (.tup (p.2.map .int))) → DRels K io H (ps.map (·.1)) ((ps.map (·.2)).map fun r => .tup (r.map .int))
  | [], _ => .nil
  | p :: ps, h => .cons (h p List.mem_cons_self) (rows_back ps fun q hq => h q (List.mem_cons_of_mem _ hq))
theorem strsRel2 : ∀ ns : List Str, DRels K io H (ns.map V.str) (ns.map D.str)
  | [] => .nil
  | n :: ns => .cons (.str n) (strsRel2 ns)
theorem depth_row (r : List Int) : (PyData.tuple (r.map .int)).depth ≤ 60 := by
  rw [PyData.depth, depth_ints]; decide
theorem sortPy_rel {Q : VK} {a : Addr} {xs : List V} {l l' : List D} (hs : SqL K H a xs) (rx : DRels K io H xs l) (e : sortPy l = some l') (hq : ∀ q vs', H q = none → DRels K io H vs' l' → Q (.ref q) (upd H q (.lst vs'))) : rSortedPy K [.ref a] H Q := by
  unfold sortPy at e
  split at e
  · rename_i ss hss
    cases e
    have hx := strsOf_rel hss rx
    subst hx
    have m1 : (ss.map fun s : Str => (V.str s, PyData.str s)).map (·.1) = ss.map V.str := by rw [List.map_map]; rfl
    have m2 : (ss.map fun s : Str => (V.str s, PyData.str s)).map (·.2) = ss.map PyData.str := by rw [List.map_map]; rfl
    refine ⟨a, ss.map fun s => (V.str s, PyData.str s), rfl, by rw [m1]; exact hs, fun p hp => ?_, by rw [m2]; exact AllAlike.of fun _ _ => rfl, by rw [m2]; exact Sortable.others fun z => ⟨fun c => (nomatch c), fun _ c => (nomatch c)⟩, fun p hp => ?_, fun q hn => ?_⟩
    · obtain ⟨s, _, rfl⟩ := List.mem_map.mp hp
      exact .str s
    · obtain ⟨s, _, rfl⟩ := List.mem_map.mp hp
      show PyData.depth (.str s) ≤ 60
      rw [PyData.depth]; decide
    · refine hq q _ hn ?_
      have hm : ((ss.map fun s : Str => (V.str s, PyData.str s)).mergeSort (dataLe false (·.2))) = (ss.mergeSort strLe).map fun s => (V.str s, PyData.str s) := by
        refine (List.map_mergeSort fun x _ y _ => ?_).symm
        exact (congrFun (congrFun (dataLe_str fun s : Str => s) x) y).symm
      rw [hm, List.map_map]
      exact strsRel2 _
  · cases hr : rowsOf l with
    | none => rw [hr] at e; cases e
    | some rs =>
      rw [hr] at e
      cases e
      obtain ⟨ps, rfl, rfl, h3⟩ := rows_rel hr rx
      have m1 : (ps.map fun p : V × List Int => (p.1, PyData.tuple (p.2.map .int))).map (·.1) = ps.map (·.1) := by rw [List.map_map]; rfl
      have m2 : (ps.map fun p : V × List Int => (p.1, PyData.tuple (p.2.map .int))).map (·.2) = ps.map fun p => PyData.tuple (p.2.map .int) := by rw [List.map_map]; rfl
      refine ⟨a, ps.map fun p => (p.1, PyData.tuple (p.2.map .int)), rfl, by rw [m1]; exact hs, fun p hp => ?_, ?_, ?_, fun p hp => ?_, fun q hn => ?_⟩
      · obtain ⟨s, hsm, rfl⟩ := List.mem_map.mp hp
        exact (h3 s hsm).1
      · rw [m2]
        intro d hd d' hd'
        obtain ⟨p, _, rfl⟩ := List.mem_map.mp hd
        obtain ⟨p', _, rfl⟩ := List.mem_map.mp hd'
        rw [alike]
        exact alike_ints _ _
      · rw [m2]
        refine .inl fun d hd => ?_
        obtain ⟨p, hp, rfl⟩ := List.mem_map.mp hd
        obtain ⟨x, l, e⟩ := (h3 p hp).2.2
        exact ⟨.int x, l.map .int, by rw [e]; rfl⟩
      · obtain ⟨s, _, rfl⟩ := List.mem_map.mp hp
        exact depth_row _
      · have hm : ((ps.map fun p : V × List Int => (p.1, PyData.tuple (p.2.map .int))).mergeSort (dataLe false (·.2))) = (ps.mergeSort fun x y => rowLe x.2 y.2).map fun p => (p.1, PyData.tuple (p.2.map .int)) := by
          refine (List.map_mergeSort fun x _ y _ => ?_).symm
          exact (congrFun (congrFun (dataLe_tup fun p : V × List Int => p.2) x) y).symm
        have hm2 : (ps.map (·.2)).mergeSort rowLe = (ps.mergeSort fun x y => rowLe x.2 y.2).map (·.2) := (List.map_mergeSort (f := fun p : V × List Int => p.2) (r := fun x y => rowLe x.2 y.2) (s := rowLe) (l := ps) fun x _ y _ => rfl).symm
        refine hq q _ hn ?_
        dsimp only
        rw [hm, List.map_map, hm2]
        exact rows_back _ fun p hp => (h3 p ((List.mergeSort_perm _ _).mem_iff.mp hp)).2.1
end
end PyI
-- PyE
/-! PyE: the built-in functions are those of the model -/
namespace PyI
open PySem PySem.Spec PyProof.Rows L2

theorem divP {i j : Int} (h0 : 0 < j) (h : j < 1267650600228229401496703205376) : CDivP i j := by
  refine ⟨h0, ?_⟩
  have l : j.natAbs.log2 < 100 := by
    refine (Nat.log2_lt (by omega)).mpr ?_
    have : (2 : Nat) ^ 100 = 1267650600228229401496703205376 := by decide
    omega
  unfold Builtin.divisionGoesByPylong
  have n0 : (j == 0) = false := beq_false_of_ne (by omega)
  simp only [n0, Bool.false_eq_true, if_false]
  rw [decide_eq_false (by omega), Bool.false_and]
def cor (r1 r2 : List V → Hp → VK → Prop) : List V → Hp → VK → Prop := fun x H Q => r1 x H Q ∨ r2 x H Q
theorem CallR.cor {X : Cx} {f : Value} {r1 r2 : List V → Hp → VK → Prop} (h1 : CallR X f r1) (h2 : CallR X f r2) : CallR X f (cor r1 r2) := by
  intro pins s st H x u Q I rx h
  rcases h with h | h
  · exact h1 pins s st H x u Q I rx h
  · exact h2 pins s st H x u Q I rx h
def CallS (Z : Zx) (r : List V → Hp → VK → Prop) (f : List D → DH → Res D) : Prop :=
  ∀ io h H st vs ds Q, R Z.K io h H → DRels Z.K io H vs ds → PostR Z io H st (DRel Z.K) (f ds h) Q → r vs H Q

section
variable {prog : Program} {w : World} {A : Around} {E : Value → Shared → Prop} {s : Shared}
/-- sorted(t) of ints, t a list or a tuple -/
theorem sorted_seqI {T : String} {o : Obj} {t : Addr} {items : Array Value} {n : Nat} {ns : List Int} {Q : Value → Shared → Prop} (hT : T = "list" ∨ T = "tuple")
    (ho : s.heap.get? t = some o) (hc : o.cls = .type T) (hd : o.data = .seq items n) (hI : IntsAre items.toList ns) (hz : items.size ≤ sizeLine)
    (h : ∀ (h' : Heap) (p : Addr) (out : List Value) (e : Nat), (∀ b u, s.heap.get? b = some u → h'.get? b = some u) → s.heap.get? p = none → IntsAre out (isort ns) → h'.get? p = some { cls := .type "list", data := .seq out.toArray e } → Q (.ref p) { s with heap := h' }) :
    wpAny (model prog w) A (call (.builtin "sorted") [.ref t]) Q E s := by
  refine Calls.call_function_entry kind_sorted plain_sorted entry_sorted (args_sorted1 _) ?_
  unfold Builtin.«sorted»
  refine wpAny_bind (m := checkCount "sorted" 1 1 _) (wpAny_pure ?_)
  have hz' : items.toList.length ≤ sizeLine := by simpa using hz
  refine wpAny_bind (wpAny_collect_seq t hT ho hc hd (fun h1 k1 => ?_) hz)
  refine wpAny_bind (wpAny_newList ?_ hz')
  have hL : (h1.push (seqObj "list" items.toList.toArray 0)).get? h1.objs.size = some (seqObj "list" items.toList.toArray 0) := Heap.get?_push_size _ rfl
  refine wpAny_bind (wpAny_holding (wpAny_call_entry slot_list_sort ⟨_, hL, rfl⟩ entry_list_sort
    (SrtO.list_sort_ord (s := { s with heap := h1.push (seqObj "list" items.toList.toArray 0) }) SrtO.swo_int hL hz' (fun h2 => SrtO.ints_sortable hI h2) fun out a1 a2 => ⟨_, rfl, ?_⟩) (args_list_sort _)))
  obtain ⟨k2, k3, k4⟩ := SrtO.ints_out hI a1 a2
  obtain ⟨e, he⟩ := sortedHeap_at (vs := items.toList) (out := out.toArray) hL
  have hlt : ∀ {b u}, s.heap.get? b = some u → b < h1.objs.size := fun q => Heap.lt_size (k1 _ _ q)
  refine wpAny_pure ⟨_, rfl, h _ h1.objs.size out e (fun b u q => ?_) (by
    cases z : s.heap.get? h1.objs.size with
    | none => rfl
    | some u => exact absurd (hlt z) (Nat.lt_irrefl _)) (by rw [← isort_uniq k3 k4]; exact k2) he⟩
  rw [sortedHeap_old (Nat.ne_of_lt (hlt q)) (by rw [size_push']; exact Nat.lt_succ_of_lt (hlt q))]
  exact Heap.get?_push_of_some _ (k1 _ _ q)
end
section
variable {X : Cx}
def rSortedQ (K : PySem.W.Frag) : List V → Hp → VK → Prop := fun vs H Q => ∃ (a : Addr) (ns : List Int), vs = [V.ref a] ∧ (SqL K H a (ns.map V.int) ∨ SqT K H a (ns.map V.int)) ∧ ∀ p, H p = none → Q (.ref p) (upd H p (.lst ((isort ns).map V.int)))
theorem cr_sortedQ : CallR X (.builtin "sorted") (rSortedQ X.K) := by
  intro pins s st H vs us Q I r h
  obtain ⟨a, ns, rfl, hs, q⟩ := h
  rw [Vals.ref1 r]
  obtain ⟨its, rv, T, o, n, hT, ho, hc, hd, hz⟩ : ∃ its : List Value, Vals (ns.map V.int) its ∧ ∃ T o n, (T = "list" ∨ T = "tuple") ∧ s.heap.get? a = some o ∧ o.cls = .type T ∧ o.data = .seq its.toArray n ∧ (ns.map V.int).length ≤ sizeLine := by
    rcases hs with hs | hs
    · obtain ⟨its, rv, ⟨o, n, ho, hc, _, hd⟩, hz⟩ := I.list hs
      exact ⟨its, rv, "list", o, n, .inl rfl, ho, hc, hd, hz⟩
    · obtain ⟨its, rv, ⟨o, ho, hc, n, hd⟩, hz⟩ := I.tuple hs
      exact ⟨its, rv, "tuple", o, n, .inr rfl, ho, hc, hd, hz⟩
  have hl := rv.length
  rw [List.length_map] at hl hz
  have hi : IntsAre its ns := rv.ints
  refine sorted_seqI hT ho hc hd (by simpa using hi) (by simp; omega) fun h' p out e k hn ho' he => ?_
  have hp : H p = none := I.hok.gone hn
  have hl2 : (isort ns).length = ns.length := (isort_perm ns).length_eq
  exact ⟨.ref p, upd H p (.lst ((isort ns).map V.int)), I.laidN (t' := s.toks) k hn hp ⟨by rw [List.length_map]; omega, out, e, vals_of_ints ho', he⟩, rfl, q p hp⟩
/-- repr of data -/
def rRepr (K : PySem.W.Frag) : List V → Hp → VK → Prop := fun vs H Q => ∃ v p, vs = [v] ∧ Dp K H v p ∧ p.showable = true ∧ SeqAt.shaped p = true ∧ p.shown.length ≤ 16777216 ∧ Q (.str p.shown) H
theorem cr_repr (hg : X.A.guards = some []) (hu : X.A.units + 66 < cLine) : CallR X (.builtin "repr") (rRepr X.K) := by
  intro pins s st H vs us Q I r h
  obtain ⟨v, p, rfl, hd, hs, hp, hz, q⟩ := h
  obtain ⟨u, rfl, ru⟩ := vals1 r
  have hl := sizeLine_eq
  have dep := SeqAt.depth_of_shaped hp
  have nod := PyData.hasDict_of_canLay p (SeqAt.canLay_of_shaped hp)
  cases hd with
  | non => cases ru; exact PySem.P.repr_of_none ⟨.str _, H, I.tok _, ⟨_, rfl⟩, q⟩
  | bl b => cases ru; exact PySem.P.repr_of_bool ⟨.str _, H, I.tok _, ⟨_, rfl⟩, q⟩
  | int i => obtain ⟨t, rfl⟩ := ru; exact PySem.P.repr_of_int (by simpa [PyData.showable] using hs) ⟨.str _, H, I.tok _, ⟨_, rfl⟩, q⟩
  | str x => obtain ⟨t, rfl⟩ := ru; exact PySem.P.repr_of_str ⟨.str _, H, I.tok _, ⟨_, rfl⟩, q⟩ (by simp only [PyData.shown] at hz; omega)
  | lst h1 h2 =>
    obtain ⟨as, rd⟩ := Dp.reads I _ _ _ (.lst h1 h2) ru
    cases ru
    refine repr_of_reads' rd hs (PyData.noDict_hsm nod) hg (by omega) (fun _ _ e => e) (fun h' u tk k => ⟨.str _, H, I.kept (t' := tk) k, ⟨u, rfl⟩, q⟩) (by omega)
  | tup h1 h2 =>
    obtain ⟨as, rd⟩ := Dp.reads I _ _ _ (.tup h1 h2) ru
    cases ru
    refine repr_of_reads' rd hs (PyData.noDict_hsm nod) hg (by omega) (fun _ _ e => e) (fun h' u tk k => ⟨.str _, H, I.kept (t' := tk) k, ⟨u, rfl⟩, q⟩) (by omega)
end

theorem retD_post {Z : Zx} {io : List Addr} {h : DH} {H : Hp} {st : L2.St} {Q : VK} {d : Option D} (p : PostR Z io H st (DRel Z.K) (retD d h) Q) : ∃ c, d = some c ∧ PostR Z io H st (DRel Z.K) (.ok c h) Q := by
  cases d with
  | none => exact False.elim p
  | some c => exact ⟨c, rfl, p⟩
theorem bind_inv {α β : Type} {o : Option α} {f : α → Option β} {b : β} (e : o.bind f = some b) : ∃ a, o = some a ∧ f a = some b := by
  cases o with
  | none => cases e
  | some a => exact ⟨a, rfl, e⟩
theorem map_inv {α β : Type} {o : Option α} {f : α → β} {b : β} (e : o.map f = some b) : ∃ a, o = some a ∧ f a = b := by
  cases o with
  | none => cases e
  | some a => exact ⟨a, rfl, Option.some.inj e⟩

theorem bltF_ok (X : Cx) (Z : Zx) (hK : Z.K = X.K) (hc : X.calm = true) (hg : X.A.guards = some []) (hu : X.A.units + 66 < cLine) (b : Blt) : ∃ r, CallR X (bltV b) r ∧ CallS Z r (bltF b) := by
  have hl := sizeLine_eq
  cases b with
  | len =>
    refine ⟨_, call_len, fun io h H st vs ds Q r rv p => ?_⟩
    rw [← hK]
    dsimp only [bltF] at p
    split at p
    · rename_i a
      cases rv with
      | cons q t =>
        cases q; cases t
        by_cases c : a.length ≤ 16777216
        · rw [if_pos c] at p
          exact ⟨_, a.length, rfl, ⟨by omega, rfl⟩, p.here r (.int _)⟩
        · rw [if_neg c] at p; exact p.elim
    · rename_i x _
      cases rv with
      | cons q t =>
        cases t
        obtain ⟨c, e, p⟩ := retD_post p
        obtain ⟨l, e', rfl⟩ := map_inv e
        replace e := e'
        obtain ⟨a, xs, rfl, hs, rx⟩ := listOf_rel r q e
        have := rx.length
        refine ⟨_, l.length, rfl, ?_, p.here r (.int _)⟩
        rcases hs with hs | hs
        · exact .inl ⟨xs, hs, by rw [rx.length]⟩
        · exact .inr ⟨xs, hs, by rw [rx.length]⟩
    · exact p.elim
  | abs =>
    refine ⟨_, call_abs, fun io h H st vs ds Q r rv p => ?_⟩
    dsimp only [bltF] at p
    split at p
    · cases rv with
      | cons q t => cases q; cases t; exact ⟨_, rfl, p.here r (.int _)⟩
    · exact p.elim
  | max =>
    refine ⟨_, CallR.cor (CallR.cor (call_max2 hc) (cr_max hc)) (cr_maxT hc), fun io h H st vs ds Q r rv p => ?_⟩
    rw [← hK]
    dsimp only [bltF] at p
    split at p
    · cases rv with
      | cons q t =>
        cases q
        cases t with
        | cons q t => cases q; cases t; exact .inl (.inl ⟨_, _, rfl, p.here r (.int _)⟩)
    · rename_i n
      cases rv with
      | cons q t =>
        cases t
        obtain ⟨c, e, p⟩ := retD_post p
        obtain ⟨m, e', rfl⟩ := map_inv e
        replace e := e'
        obtain ⟨ns, e, e3⟩ := bind_inv e
        obtain ⟨l, e1, e2⟩ := bind_inv e
        obtain ⟨a, xs, rfl, hs, rx⟩ := listRef_rel r q e1
        have hx := intsOf_rel e2 rx
        subst hx
        obtain ⟨m1, m2⟩ := maxL_spec e3
        refine .inl (.inr ⟨a, ns, rfl, hs, List.length_pos_of_mem m1, fun k k1 k2 => ?_⟩)
        have : k = m := Int.le_antisymm (m2 k k1) (k2 m m1)
        subst this
        exact p.here r (.int _)
    · rename_i ds
      cases rv with
      | cons q t =>
        cases t
        obtain ⟨c, e, p⟩ := retD_post p
        obtain ⟨m, e', rfl⟩ := map_inv e
        obtain ⟨ns, e, e3⟩ := bind_inv e'
        obtain ⟨a, xs, rfl, hs, rx⟩ := q.tupInv
        have hx := intsOf_rel e rx
        subst hx
        obtain ⟨m1, m2⟩ := maxL_spec e3
        refine .inr ⟨a, ns, rfl, hs, List.length_pos_of_mem m1, fun k k1 k2 => ?_⟩
        have : k = m := Int.le_antisymm (m2 k k1) (k2 m m1)
        subst this
        exact p.here r (.int _)
    · exact p.elim
  | min =>
    refine ⟨_, CallR.cor (CallR.cor (call_min2 hc) (cr_min hc)) (cr_minT hc), fun io h H st vs ds Q r rv p => ?_⟩
    rw [← hK]
    dsimp only [bltF] at p
    split at p
    · cases rv with
      | cons q t =>
        cases q
        cases t with
        | cons q t => cases q; cases t; exact .inl (.inl ⟨_, _, rfl, p.here r (.int _)⟩)
    · rename_i n
      cases rv with
      | cons q t =>
        cases t
        obtain ⟨c, e, p⟩ := retD_post p
        obtain ⟨m, e', rfl⟩ := map_inv e
        replace e := e'
        obtain ⟨ns, e, e3⟩ := bind_inv e
        obtain ⟨l, e1, e2⟩ := bind_inv e
        obtain ⟨a, xs, rfl, hs, rx⟩ := listRef_rel r q e1
        have hx := intsOf_rel e2 rx
        subst hx
        obtain ⟨m1, m2⟩ := minL_spec e3
        refine .inl (.inr ⟨a, ns, rfl, hs, List.length_pos_of_mem m1, fun k k1 k2 => ?_⟩)
        have : k = m := Int.le_antisymm (k2 m m1) (m2 k k1)
        subst this
        exact p.here r (.int _)
    · rename_i ds
      cases rv with
      | cons q t =>
        cases t
        obtain ⟨c, e, p⟩ := retD_post p
        obtain ⟨m, e', rfl⟩ := map_inv e
        obtain ⟨ns, e, e3⟩ := bind_inv e'
        obtain ⟨a, xs, rfl, hs, rx⟩ := q.tupInv
        have hx := intsOf_rel e rx
        subst hx
        obtain ⟨m1, m2⟩ := minL_spec e3
        refine .inr ⟨a, ns, rfl, hs, List.length_pos_of_mem m1, fun k k1 k2 => ?_⟩
        have : k = m := Int.le_antisymm (k2 m m1) (m2 k k1)
        subst this
        exact p.here r (.int _)
    · exact p.elim
  | int =>
    refine ⟨_, CallR.cor call_int1 call_int_str, fun io h H st vs ds Q r rv p => ?_⟩
    dsimp only [bltF] at p
    split at p
    · cases rv with
      | cons q t => cases q; cases t; exact .inl (.inl ⟨_, rfl, p.here r (.int _)⟩)
    · cases rv with
      | cons q t => cases q; cases t; exact .inl (.inr ⟨_, rfl, p.here r (.int _)⟩)
    · rename_i a
      cases rv with
      | cons q t =>
        cases q; cases t
        by_cases c : a.length ≤ 640
        · rw [if_pos c] at p
          obtain ⟨d, e, p⟩ := retD_post p
          obtain ⟨m, e', rfl⟩ := map_inv e
          replace e := e'
          exact .inr ⟨a, m, rfl, e, c, p.here r (.int _)⟩
        · rw [if_neg c] at p; exact p.elim
    · exact p.elim
  | divmod =>
    refine ⟨_, call_divmodW, fun io h H st vs ds Q r rv p => ?_⟩
    dsimp only [bltF] at p
    split at p
    · rename_i i j
      cases rv with
      | cons q t =>
        cases q
        cases t with
        | cons q t =>
          cases q; cases t
          by_cases c : 0 < j ∧ j < hid 1267650600228229401496703205376
          · rw [if_pos c] at p
            rw [hid_eq] at c
            exact ⟨i, j, rfl, divP c.1 c.2, fun l hl => newTup r (.cons (.int _) (.cons (.int _) .nil)) p hl⟩
          · rw [if_neg c] at p; exact p.elim
    · exact p.elim
  | isinst =>
    refine ⟨_, call_isi, fun io h H st vs ds Q r rv p => ?_⟩
    rw [← hK]
    dsimp only [bltF] at p
    split at p
    · rename_i x n
      cases rv with
      | cons q t =>
        cases t with
        | cons q2 t =>
          cases q2; cases t
          obtain ⟨d, e, p⟩ := retD_post p
          obtain ⟨b, e', rfl⟩ := map_inv e
          replace e := e'
          obtain ⟨t, e1, e2⟩ := bind_inv e
          exact ⟨_, _, _, _, b, rfl, .ty n, ty_rel r q e1, kit_ty (isTy_ok e2), p.here r (.bl _)⟩
    · exact p.elim
  | list =>
    refine ⟨_, CallR.cor call_list_of (call_list_text hc), fun io h H st vs ds Q r rv p => ?_⟩
    rw [← hK]
    dsimp only [bltF] at p
    split at p
    · rename_i x
      cases rv with
      | cons q t =>
        cases t
        split at p
        · rename_i l e
          unfold listOfS at e
          split at e
          · rename_i z
            split at e
            · rename_i hz
              cases e
              cases q
              exact .inr ⟨z, rfl, hz, fun l hl => newLst r (chars_rel z) p hl⟩
            · cases e
          · obtain ⟨a, xs, rfl, hs, rx⟩ := listOf_rel r q e
            exact .inl ⟨a, xs, rfl, hs, fun l hl => newLst r rx p hl⟩
        · exact p.elim
    · exact p.elim
  | tuple =>
    refine ⟨_, call_tuple_of, fun io h H st vs ds Q r rv p => ?_⟩
    rw [← hK]
    dsimp only [bltF] at p
    split at p
    · rename_i x
      cases rv with
      | cons q t =>
        cases t
        obtain ⟨d, e, p⟩ := retD_post p
        obtain ⟨l, e', rfl⟩ := map_inv e
        replace e := e'
        obtain ⟨a, xs, rfl, hs, rx⟩ := listOf_rel r q e
        rcases hs with hs | hs
        · exact ⟨a, xs, rfl, .inl ⟨hs, fun l hl => newTup r rx p hl⟩⟩
        · exact ⟨a, xs, rfl, .inr ⟨hs, p.here r (.tup hs rx)⟩⟩
    · exact p.elim
  | all =>
    refine ⟨_, cr_all hc, fun io h H st vs ds Q r rv p => ?_⟩
    rw [← hK]
    dsimp only [bltF] at p
    split at p
    · rename_i x
      cases rv with
      | cons q t =>
        cases t
        obtain ⟨d, e, p⟩ := retD_post p
        obtain ⟨bs, e', rfl⟩ := map_inv e
        replace e := e'
        obtain ⟨l, e1, e2⟩ := bind_inv e
        obtain ⟨a, xs, rfl, hs, rx⟩ := listRef_rel r q e1
        have hx := boolsOf_rel e2 rx
        subst hx
        exact ⟨a, bs, rfl, hs, p.here r (.bl _)⟩
    · exact p.elim
  | any =>
    refine ⟨_, cr_any hc, fun io h H st vs ds Q r rv p => ?_⟩
    rw [← hK]
    dsimp only [bltF] at p
    split at p
    · rename_i x
      cases rv with
      | cons q t =>
        cases t
        obtain ⟨d, e, p⟩ := retD_post p
        obtain ⟨bs, e', rfl⟩ := map_inv e
        replace e := e'
        obtain ⟨l, e1, e2⟩ := bind_inv e
        obtain ⟨a, xs, rfl, hs, rx⟩ := listRef_rel r q e1
        have hx := boolsOf_rel e2 rx
        subst hx
        exact ⟨a, bs, rfl, hs, p.here r (.bl _)⟩
    · exact p.elim
  | sum =>
    refine ⟨_, cr_sum hc, fun io h H st vs ds Q r rv p => ?_⟩
    rw [← hK]
    dsimp only [bltF] at p
    split at p
    · rename_i x
      cases rv with
      | cons q t =>
        cases t
        obtain ⟨d, e, p⟩ := retD_post p
        obtain ⟨bs, e', rfl⟩ := map_inv e
        replace e := e'
        obtain ⟨l, e1, e2⟩ := bind_inv e
        obtain ⟨a, xs, rfl, hs, rx⟩ := listRef_rel r q e1
        have hx := intsOf_rel e2 rx
        subst hx
        exact ⟨a, bs, rfl, hs, p.here r (.int _)⟩
    · exact p.elim
  | sorted =>
    refine ⟨_, CallR.cor cr_sortedQ (cr_sortedPy hu), fun io h H st vs ds Q r rv p => ?_⟩
    rw [← hK]
    dsimp only [bltF] at p
    split at p
    · rename_i x
      cases rv with
      | cons q t =>
        cases t
        split at p
        · rename_i ns e
          obtain ⟨l, e1, e2⟩ := bind_inv e
          obtain ⟨a, xs, rfl, hs, rx⟩ := listOf_rel r q e1
          have hx := intsOf_rel e2 rx
          subst hx
          exact .inl ⟨a, ns, rfl, hs, fun l hl => newLst r (intsRel _) p hl⟩
        · split at p
          · split at p
            · rename_i l' e
              obtain ⟨l, e1, e2⟩ := bind_inv e
              obtain ⟨a, xs, rfl, hs, rx⟩ := listRef_rel r q e1
              exact .inr (sortPy_rel hs rx e2 fun q vs' hn rl => newLst r rl p hn)
            · exact p.elim
          · exact p.elim
    · exact p.elim
  | repr =>
    refine ⟨_, cr_repr hg hu, fun io h H st vs ds Q r rv p => ?_⟩
    rw [← hK]
    dsimp only [bltF] at p
    split at p
    · rename_i x
      cases rv with
      | cons q t =>
        cases t
        obtain ⟨d, e, p⟩ := retD_post p
        obtain ⟨tx, e', rfl⟩ := map_inv e
        replace e := e'
        obtain ⟨pd, e1, e2⟩ := bind_inv e
        split at e2
        · rename_i c
          cases e2
          simp only [Bool.and_eq_true, decide_eq_true_eq] at c
          obtain ⟨⟨⟨c1, c2⟩, c3⟩, c4⟩ := c
          have := rsz_le pd c1 c3
          exact ⟨_, pd, rfl, toPy_ok r 66 x pd _ e1 q, c1, c2, by omega, p.here r (.str _)⟩
        · cases e2
    · exact p.elim
  | str =>
    refine ⟨_, CallR.cor call_str_int SkE.call_str_str, fun io h H st vs ds Q r rv p => ?_⟩
    dsimp only [bltF] at p
    split at p
    · rename_i i
      cases rv with
      | cons q t =>
        cases q; cases t
        by_cases c : i.natAbs.log2 < 1920
        · rw [if_pos c] at p; exact .inl ⟨i, rfl, c, p.here r (.str _)⟩
        · rw [if_neg c] at p; exact p.elim
    · cases rv with
      | cons q t => cases q; cases t; exact .inr ⟨_, rfl, p.here r (.str _)⟩
    · exact p.elim
end PyI
-- PyF
/-! PyF: subscripts, slices, methods of built-in types -/
namespace PyI
open PySem PySem.Spec PyProof.Rows L2

/-! ### a[i] -/
def opI (x y : D) (h : DH) : Res D :=
  match x, y with
  | .str z, .int i => if z.length ≤ 16777216 then retD ((atI z.cps.toList i).map fun c => .str ⟨#[c]⟩) h else .no
  | x, .int i => retD ((listOf h x).bind fun l => atI l i) h
  | _, _ => .no
theorem atI_rel {K : PySem.W.Frag} {io : List Addr} {H : Hp} {vs : List V} {ds : List D} {i : Int} {d : D} (r : DRels K io H vs ds) (e : atI ds i = some d) : ∃ v, atI vs i = some v ∧ DRel K io H v d := by
  unfold atI at e ⊢
  rw [r.length]
  cases e1 : ixN ds.length i with
  | none => rw [e1] at e; cases e
  | some j =>
    rw [e1] at e
    exact r.get e
theorem opI_ok (X : Cx) (Z : Zx) (hK : Z.K = X.K) : IxR X (rIx X.K) ∧ OpS Z (rIx X.K) opI := by
  have hl := sizeLine_eq
  refine ⟨ix_seq, fun io h H st x y dx dy Q r rx ry p => ?_⟩
  rw [← hK]
  have gen : ∀ i : Int, y = .int i → PostR Z io H st (DRel Z.K) (retD ((listOf h dx).bind fun l => atI l i) h) Q → rIx Z.K x y H Q := fun i ey p => by
    subst ey
    obtain ⟨c, e, p⟩ := retD_post p
    obtain ⟨l, e1, e2⟩ := bind_inv e
    obtain ⟨a, xs, rfl, hs, rl⟩ := listOf_rel r rx e1
    obtain ⟨v, h1, h2⟩ := atI_rel rl e2
    rcases hs with hs | hs
    · exact .inl ⟨a, xs, i, v, rfl, rfl, hs, h1, p.here r h2⟩
    · exact .inr (.inl ⟨a, xs, i, v, rfl, rfl, hs, h1, p.here r h2⟩)
  cases dy with
  | int i =>
    cases ry
    cases dx with
    | str z =>
      cases rx
      have p : PostR Z io H st (DRel Z.K) (if z.length ≤ 16777216 then retD ((atI z.cps.toList i).map fun c => .str ⟨#[c]⟩) h else .no) Q := p
      by_cases c : z.length ≤ 16777216
      · rw [if_pos c] at p
        obtain ⟨d, e, p⟩ := retD_post p
        obtain ⟨k, e', rfl⟩ := map_inv e
        exact .inr (.inr ⟨z, i, k, rfl, rfl, by omega, e', p.here r (.str _)⟩)
      · rw [if_neg c] at p; exact p.elim
    | _ => exact gen i rfl p
  | _ => cases dx <;> exact p.elim

/-! ### a[lo:hi] -/
def cutL {α : Type} (xs : List α) (lo hi : Option Int) : List α := (xs.drop (HT.sIx xs.length 0 lo)).take (HT.sIx xs.length xs.length hi - HT.sIx xs.length 0 lo)
def opSl (x : D) (lo hi : Option Int) (h : DH) : Res D :=
  match x with
  | .str z => if z.length ≤ 16777216 then .ok (.str ⟨(cutL z.cps.toList lo hi).toArray⟩) h else .no
  | .tup xs => .ok (.tup (cutL xs lo hi)) h
  | x => match listOf h x with
    | some l => .ok (.ref h.length) (h ++ [.lst (cutL l lo hi)])
    | none => .no
def rSlAny (K : PySem.W.Frag) : V → Option Int → Option Int → Hp → VK → Prop := fun x lo hi H Q => rSlL K x lo hi H Q ∨ rSlA K x lo hi H Q ∨ rSlS x lo hi H Q
theorem sl_any {X : Cx} : SlR X (rSlAny X.K) := sl_list.or (sl_tupA.or sl_str)
theorem cut_rel {K : PySem.W.Frag} {io : List Addr} {H : Hp} {vs : List V} {ds : List D} (r : DRels K io H vs ds) (lo hi : Option Int) : DRels K io H (cutV vs lo hi) (cutL ds lo hi) := by
  unfold cutV cutL
  rw [r.length]
  exact (r.drop _).take _
theorem cutL_all {α : Type} {xs : List α} {lo hi : Option Int} (h1 : HT.sIx xs.length 0 lo = 0) (h2 : HT.sIx xs.length xs.length hi = xs.length) : cutL xs lo hi = xs := by
  unfold cutL
  rw [h1, h2]
  simp
theorem listOf_sql {K : PySem.W.Frag} {io : List Addr} {h : DH} {H : Hp} {v : V} {d : D} {ds : List D} (r : R K io h H) (q : DRel K io H v d) (nt : ∀ xs, d ≠ .tup xs) (e : listOf h d = some ds) : ∃ p xs, v = .ref p ∧ SqL K H p xs ∧ DRels K io H xs ds := by
  cases d with
  | tup xs => exact absurd rfl (nt xs)
  | ref n => exact listRef_rel r q e
  | scr ns =>
    cases q with
    | scr hf => cases e; exact ⟨_, _, rfl, hf.l, intsRel ns⟩
  | _ => cases e
theorem opSl_ok (Z : Zx) {io : List Addr} {h : DH} {H : Hp} {st : L2.St} {x : V} {dx : D} {lo hi : Option Int} {Q : VK} (r : R Z.K io h H) (rx : DRel Z.K io H x dx) (p : PostR Z io H st (DRel Z.K) (opSl dx lo hi h) Q) : rSlAny Z.K x lo hi H Q := by
  have hl := sizeLine_eq
  have gen : (∀ xs, dx ≠ .tup xs) → PostR Z io H st (DRel Z.K) (match listOf h dx with | some l => .ok (.ref h.length) (h ++ [.lst (cutL l lo hi)]) | none => .no) Q → rSlAny Z.K x lo hi H Q := fun nt p => by
    split at p
    · rename_i l e
      obtain ⟨a, xs, rfl, hs, rl⟩ := listOf_sql r rx nt e
      exact .inl ⟨a, xs, rfl, hs, fun q hq => newLst r (cut_rel rl lo hi) p hq⟩
    · exact p.elim
  cases dx with
  | str z =>
    cases rx
    have p : PostR Z io H st (DRel Z.K) (if z.length ≤ 16777216 then .ok (.str ⟨(cutL z.cps.toList lo hi).toArray⟩) h else .no) Q := p
    by_cases c : z.length ≤ 16777216
    · rw [if_pos c] at p
      refine .inr (.inr ⟨z, rfl, by omega, ?_⟩)
      have e : cutS z lo hi = ⟨(cutL z.cps.toList lo hi).toArray⟩ := by
        unfold cutS cutL
        simp [Str.length]
      rw [e]
      exact p.here r (.str _)
    · rw [if_neg c] at p; exact p.elim
  | tup xs =>
    obtain ⟨a, ys, rfl, hs, rl⟩ := rx.tupInv
    refine .inr (.inl ⟨a, ys, rfl, hs, fun c => ?_, fun _ q hq => newTup r (cut_rel rl lo hi) p hq⟩)
    have c1 := c.1
    have c2 := c.2
    rw [rl.length] at c1 c2
    have p : PostR Z io H st (DRel Z.K) (.ok (.tup (cutL xs lo hi)) h) Q := p
    rw [cutL_all c1 c2] at p
    exact p.here r (.tup hs rl)
  | _ => exact gen (fun _ z => nomatch z) p

/-! ### methods -/
structure MOk (X : Cx) (name : Str) (T id : String) (r : V → List V → Hp → VK → Prop) : Prop where
  pa : PlainAttrs T
  slot : Slot T name id
  ty : typeOf (.builtin id) = pure (.type "method_descriptor")
  rule : MtR X id r
def isStar : Expr → Bool
  | .Starred _ _ => true
  | _ => false
def noStars (es : List Expr) : Bool := es.all fun e => !isStar e
theorem starEach_cons {e : Expr} {es : List Expr} {env : Env} (h : isStar e = false) : starEach (e :: es) env = (false, eval e env) :: starEach es env := by
  cases e <;> first | rfl | cases h
theorem noStars_trees {es : List Expr} {env : Env} {pos : Pos} (h : noStars es = true) : (backTo pos (starEach es env)).any (·.1) = false ∧ (backTo pos (starEach es env)).all (fun x => !x.1) = true := by
  induction es with
  | nil => exact ⟨rfl, rfl⟩
  | cons e es ih =>
    unfold noStars at h ih
    rw [List.all_cons, Bool.and_eq_true] at h
    obtain ⟨h1, h2⟩ := ih h.2
    have h0 : isStar e = false := by simpa using h.1
    rw [starEach_cons h0]
    unfold backTo at h1 h2 ⊢
    rw [List.map_cons, List.any_cons, List.all_cons, h1, h2]
    exact ⟨rfl, rfl⟩
/-- an expression whose attribute is looked up plainly -/
def plainBase : Expr → Bool
  | .Call (.Name _ _) [] [] _ => false
  | _ => true
theorem plainBase_ok {o : Expr} {name : Str} {env : Env} (h : plainBase o = true) : attributeBase o name env (eval o env) = eval o env := by
  unfold attributeBase
  split
  · cases h
  · rfl
def tMeth' (X : Cx) (name : Str) (to : TE) (t : TA) : TE := fun st H Q => to st H fun x H1 => ∃ T id r, MOk X name T id r ∧ tyV X.K T x H1 ∧ t st H1 fun xs H2 => r x xs H2 Q
def tMeth0' (X : Cx) (name : Str) (to : TE) : TE := fun st H Q => to st H fun x H1 => ∃ T id r, MOk X name T id r ∧ tyV X.K T x H1 ∧ r x [] H1 Q
theorem pe_method0 {X : Cx} {o : Expr} {to : TE} {name : Str} {apos cpos : Pos} (ho : PE X o to) (hb : plainBase o = true) (hline : (apos.endLine == cpos.line) = true) :
    PE X (.Call (.Attribute o name apos) [] [] cpos) (tMeth0' X name to) := by
  refine ⟨fun pins s st H Q I h => ?_⟩
  refine wpAny_Call_method0_late (plainBase_ok hb) hline (thn (ho.run pins s st H _ I h) fun v s1 hv => ?_)
  obtain ⟨x, H1, I1, r1, T, id, r, M, ty, q1⟩ := hv
  obtain ⟨h1, h2⟩ := tyV_is I1 r1 ty
  exact ⟨T, id, M.pa, M.slot, M.ty, h1, h2, Calls.callWith_builtin rfl (PySem.evalArgs_none (M.rule pins s1 st H1 x [] v [] Q I1 r1 .nil q1))⟩
theorem pe_method {X : Cx} {o e : Expr} {es : List Expr} {to : TE} {t : TA} {name : Str} {apos cpos : Pos} (ho : PE X o to) (ha : PA X (e :: es) t) (hb : plainBase o = true) (hs : noStars (e :: es) = true) (hn : (e :: es).length < 29) (hline : (apos.endLine == cpos.line) = true) :
    PE X (.Call (.Attribute o name apos) (e :: es) [] cpos) (tMeth' X name to t) := by
  refine ⟨fun pins s st H Q I h => ?_⟩
  obtain ⟨n1, n2⟩ := noStars_trees (env := X.env) (pos := cpos) hs
  refine wpAny_Call_method_late (plainBase_ok hb) ?_ hline rfl (thn (ho.run pins s st H _ I h) fun v s1 hv => ?_)
  · rw [n2]
    show (true && true && decide ((e :: es).length + 0 + 0 < 30)) = true
    simp only [Bool.true_and, decide_eq_true_eq]
    omega
  · obtain ⟨x, H1, I1, r1, T, id, r, M, ty, q1⟩ := hv
    obtain ⟨h1, h2⟩ := tyV_is I1 r1 ty
    refine ⟨T, id, M.pa, M.slot, M.ty, h1, h2, ?_⟩
    have hA := ha.run cpos pins s1 st H1 _ I1 q1
    have h0 : isStar e = false := by
      unfold noStars at hs
      rw [List.all_cons, Bool.and_eq_true] at hs
      simpa using hs.1
    rw [starEach_cons h0] at hA n1 ⊢
    refine Calls.callWith_builtin n1 (Calls.evalArgs_plain ?_)
    exact thn hA fun us s2 ⟨vs, H2, I2, r2, q2⟩ => M.rule pins s2 st H2 x vs v us Q I2 r1 r2 q2

def lset (h : DH) (n : Nat) (xs : List D) : DH := h.set n (.lst xs)
def idxF (y : D) : List D → Option Nat
  | [] => none
  | x :: xs => if eqF x y then some 0 else (idxF y xs).map (· + 1)
inductive Mth where
  | append | extend | pop | lindex | lcount | scount | join | startswith | endswith | split | lstrip
def mthOf (nm : Str) (x : D) (h : DH) : Option Mth :=
  match x with
  | .str _ => if nm = "join" then some .join else if nm = "count" then some .scount else if nm = "startswith" then some .startswith else if nm = "endswith" then some .endswith else if nm = "split" then some .split else if nm = "lstrip" then some .lstrip else none
  | .ref n => match h[n]? with
    | some (.lst _) => if nm = "append" then some .append else if nm = "pop" then some .pop else if nm = "extend" then some .extend else if nm = "index" then some .lindex else if nm = "count" then some .lcount else none
    | _ => none
  | _ => none
noncomputable def mthF (m : Mth) (x : D) (ds : List D) (h : DH) : Res D :=
  match m with
  | .append => match x, ds with
    | .ref n, [d] => match h[n]? with
      | some (.lst xs) => if xs.length < 16777216 then .ok .non (lset h n (xs ++ [d])) else .no
      | _ => .no
    | _, _ => .no
  | .extend => match x, ds with
    | .ref n, [.ref m] => match h[n]?, h[m]? with
      | some (.lst xs), some (.lst ys) => if xs.length + ys.length ≤ 16777216 then .ok .non (lset h n (xs ++ ys)) else .no
      | _, _ => .no
    | _, _ => .no
  | .pop => match x, ds with
    | .ref n, [] => match h[n]? with
      | some (.lst xs) => match xs[xs.length - 1]? with
        | some y => .ok y (lset h n xs.dropLast)
        | none => .no
      | _ => .no
    | .ref n, [.int i] => match h[n]? with
      | some (.lst xs) => if -hid 9223372036854775808 ≤ i ∧ i < hid 9223372036854775808 then match seqIndex? i xs.length with
        | some k => match xs[k]? with
          | some y => .ok y (lset h n (xs.eraseIdx k))
          | none => .no
        | none => .no else .no
      | _ => .no
    | _, _ => .no
  | .lindex => match x, ds with
    | .ref n, [y] => match h[n]? with
      | some (.lst xs) => if flatD y && xs.all flatD then retD ((idxF y xs).map fun k => .int (k : Nat)) h else .no
      | _ => .no
    | _, _ => .no
  | .lcount => match x, ds with
    | .ref n, [.int k] => match h[n]? with
      | some (.lst xs) => retD ((intsOf xs).map fun ns => .int (ns.count k : Nat)) h
      | _ => .no
    | _, _ => .no
  | .scount => match x, ds with
    | .str a, [.str b] => .ok (.int (Txt.count a b)) h
    | _, _ => .no
  | .join => match x, ds with
    | .str a, [y] => match (listOf h y).bind strsOf with
      | some ys => if (ys.map (·.length)).sum + ys.length * a.length ≤ 16777216 then .ok (.str (Txt.join a ys)) h else .no
      | none => .no
    | _, _ => .no
  | .startswith => match x, ds with
    | .str a, [.str b] => .ok (.bl (Txt.startswith a b)) h
    | _, _ => .no
  | .endswith => match x, ds with
    | .str a, [.str b] => .ok (.bl (Txt.endswith a b)) h
    | _, _ => .no
  | .split => match x, ds with
    | .str a, [.str b] => if (b.length == 0) = false ∧ a.length + 2 ≤ 16777216 then .ok (.ref h.length) (h ++ [.lst ((Txt.split a b).map .str)]) else .no
    | _, _ => .no
  | .lstrip => match x, ds with
    | .str a, [.str b] => if a.length ≤ 16777216 then .ok (.str (Txt.lstripChars a b)) h else .no
    | _, _ => .no
def MetS (Z : Zx) (r : V → List V → Hp → VK → Prop) (f : D → List D → DH → Res D) : Prop :=
  ∀ io h H st v x vs ds Q, R Z.K io h H → DRel Z.K io H v x → DRels Z.K io H vs ds → PostR Z io H st (DRel Z.K) (f x ds h) Q → r v vs H Q
section
variable {Z : Zx} {io : List Addr} {h : DH} {H : Hp} {st : L2.St} {Q : VK}
theorem wrLst {n : Nat} {a : Addr} {ds' : List D} {xs' : List V} {d : D} {v : V} (r : R Z.K io h H) (ea : io[n]? = some a) (rx : DRels Z.K io H xs' ds') (rd : DRel Z.K io H v d)
    (p : PostR Z io H st (DRel Z.K) (.ok d (lset h n ds')) Q) : Q v (upd H a (.lst xs')) := by
  have m : a ∈ io := List.mem_of_getElem? ea
  have s : Step Z.K io H io (upd H a (.lst xs')) := Step.write m (r.isMut m)
  exact p v _ io s (r.write ea fun s => ⟨xs', upd_same, rx.mono s⟩) (rd.mono s)
theorem strsRel : ∀ ns : List Str, DRels Z.K io H (ns.map V.str) (ns.map D.str)
  | [] => .nil
  | n :: ns => .cons (.str n) (strsRel ns)
theorem idx_rel {w : V} {y : D} (rw' : DRel Z.K io H w y) (f2 : flatD y = true) : ∀ {vs : List V} {ds : List D} {j : Nat}, DRels Z.K io H vs ds → ds.all flatD = true → idxF y ds = some j →
    ∃ z, vs[j]? = some z ∧ eqV z w = true ∧ ∀ (m : Nat) (z' : V), m < j → vs[m]? = some z' → eqV z' w = false
  | _, _, _, .nil, _, e => by cases e
  | _, _, j, .cons (v := v) (d := d) q t, f, e => by
    rw [List.all_cons, Bool.and_eq_true] at f
    unfold idxF at e
    split at e
    · rename_i c
      cases e
      exact ⟨v, rfl, by rw [eqF_of q rw' f.1 f2]; exact c, fun m z' hm => absurd hm (Nat.not_lt_zero _)⟩
    · rename_i c
      obtain ⟨k, e1, rfl⟩ := map_inv e
      obtain ⟨z, h1, h2, h3⟩ := idx_rel rw' f2 t f.2 e1
      refine ⟨z, h1, h2, fun m z' hm hz => ?_⟩
      cases m with
      | zero =>
        cases hz
        rw [eqF_of q rw' f.1 f2]
        simpa using c
      | succ m => exact h3 m z' (by omega) hz
end
theorem strOf1 {Z : Zx} {io : List Addr} {H : Hp} {vs : List V} {b : Str} (r : DRels Z.K io H vs [.str b]) : vs = [.str b] := by
  cases r with
  | cons q t => cases q; cases t; rfl
theorem mth_ok (X : Cx) (Z : Zx) (hK : Z.K = X.K) {io : List Addr} {h : DH} {H : Hp} {nm : Str} {x : D} {v : V} {m : Mth} (r0 : R Z.K io h H) (rx0 : DRel Z.K io H v x) (e : mthOf nm x h = some m) :
    ∃ T id r, MOk X nm T id r ∧ tyV X.K T v H ∧ MetS Z r (mthF m) := by
  have hl := sizeLine_eq
  cases x with
  | str z =>
    cases rx0
    have ty : tyV X.K "str" (.str z) H := rfl
    unfold mthOf at e
    dsimp only at e
    split at e
    · cases e; subst nm
      refine ⟨_, _, _, ⟨PySem.F.plainAttrs_str, PySem.F.slot_str_join, PySem.F.type_str_join, mt_join⟩, ty, fun io h H st v x vs ds Q r rv rs p => ?_⟩
      rw [← hK]
      dsimp only [mthF] at p
      split at p
      · cases rv
        cases rs with
        | cons q t =>
          cases t
          split at p
          · rename_i ys e1
            obtain ⟨l, e2, e3⟩ := bind_inv e1
            obtain ⟨a, xs, rfl, hs, rl⟩ := listOf_rel r q e2
            have hx := strsOf_rel e3 rl
            subst hx
            split at p
            · rename_i c
              exact ⟨_, a, ys, rfl, rfl, hs, c, p.here r (.str _)⟩
            · exact p.elim
          · exact p.elim
      · exact p.elim
    split at e
    · cases e; subst nm
      refine ⟨_, _, _, ⟨PySem.F.plainAttrs_str, PySem.F.slot_str_count, PySem.F.type_str_count, mt_count⟩, ty, fun io h H st v x vs ds Q r rv rs p => ?_⟩
      dsimp only [mthF] at p
      split at p
      · cases rv; rw [strOf1 rs]; exact ⟨_, _, rfl, rfl, p.here r (.int _)⟩
      · exact p.elim
    split at e
    · cases e; subst nm
      refine ⟨_, _, _, ⟨PySem.F.plainAttrs_str, PySem.F.slot_str_startswith, PySem.F.type_str_startswith, mt_startswith⟩, ty, fun io h H st v x vs ds Q r rv rs p => ?_⟩
      dsimp only [mthF] at p
      split at p
      · cases rv; rw [strOf1 rs]; exact ⟨_, _, rfl, rfl, p.here r (.bl _)⟩
      · exact p.elim
    split at e
    · cases e; subst nm
      refine ⟨_, _, _, ⟨PySem.F.plainAttrs_str, PySem.F.slot_str_endswith, PySem.F.type_str_endswith, mt_endswith⟩, ty, fun io h H st v x vs ds Q r rv rs p => ?_⟩
      dsimp only [mthF] at p
      split at p
      · cases rv; rw [strOf1 rs]; exact ⟨_, _, rfl, rfl, p.here r (.bl _)⟩
      · exact p.elim
    split at e
    · cases e; subst nm
      refine ⟨_, _, _, ⟨PySem.F.plainAttrs_str, PySem.F.slot_str_split, PySem.F.type_str_split, mt_split⟩, ty, fun io h H st v x vs ds Q r rv rs p => ?_⟩
      dsimp only [mthF] at p
      split at p
      · cases rv; rw [strOf1 rs]
        split at p
        · rename_i c
          exact ⟨_, _, rfl, rfl, c.1, by omega, fun l hl => newLst r (strsRel _) p hl⟩
        · exact p.elim
      · exact p.elim
    split at e
    · cases e; subst nm
      refine ⟨_, _, _, ⟨PySem.F.plainAttrs_str, PySem.F.slot_str_lstrip, PySem.F.type_str_lstrip, mt_lstripChars⟩, ty, fun io h H st v x vs ds Q r rv rs p => ?_⟩
      dsimp only [mthF] at p
      split at p
      · cases rv; rw [strOf1 rs]
        split at p
        · rename_i c
          exact ⟨_, _, rfl, rfl, by omega, p.here r (.str _)⟩
        · exact p.elim
      · exact p.elim
    cases e
  | ref n =>
    unfold mthOf at e
    dsimp only at e
    split at e
    · rename_i xs0 e0
      obtain ⟨a0, ys0, rfl, _, hy0, _⟩ := r0.isLst rx0 e0
      have ty : tyV X.K "list" (.ref a0) H := .inl ⟨rfl, _, SqL.of hy0⟩
      split at e
      · cases e; subst nm
        refine ⟨_, _, _, ⟨PySem.F.plainAttrs_list, PySem.F.slot_list_append, PySem.F.type_list_append, mt_append⟩, ty, fun io h H st v x vs ds Q r rv rs p => ?_⟩
        dsimp only [mthF] at p
        split at p
        · split at p
          · rename_i xs e1
            obtain ⟨a, ys, rfl, ea, hy, ry⟩ := r.isLst rv e1
            cases rs with
            | cons q t =>
              cases t
              split at p
              · exact ⟨a, ys, _, rfl, rfl, hy, by rw [ry.length]; omega, wrLst r ea (ry.append (.cons q .nil)) .non p⟩
              · exact p.elim
          · exact p.elim
        · exact p.elim
      split at e
      · cases e; subst nm
        refine ⟨_, _, _, ⟨PySem.F.plainAttrs_list, PySem.F.slot_list_pop, PySem.F.type_list_pop, MtR.or mt_pop mt_popAt⟩, ty, fun io h H st v x vs ds Q r rv rs p => ?_⟩
        dsimp only [mthF] at p
        split at p
        · cases rs
          split at p
          · rename_i xs e1
            obtain ⟨a, ys, rfl, ea, hy, ry⟩ := r.isLst rv e1
            split at p
            · rename_i y ey
              obtain ⟨w, hw, rw'⟩ := ry.get ey
              have rd : DRels Z.K io H ys.dropLast xs.dropLast := by
                rw [List.dropLast_eq_take, List.dropLast_eq_take, ry.length]
                exact ry.take _
              exact .inl ⟨a, ys, w, rfl, rfl, hy, by rw [ry.length]; exact hw, wrLst r ea rd rw' p⟩
            · exact p.elim
          · exact p.elim
        · cases rs with
          | cons q t =>
            cases q; cases t
            split at p
            · rename_i xs e1
              obtain ⟨a, ys, rfl, ea, hy, ry⟩ := r.isLst rv e1
              split at p
              · rename_i c
                rw [hid_eq] at c
                split at p
                · rename_i k ek
                  split at p
                  · rename_i y ey
                    obtain ⟨w, hw, rw'⟩ := ry.get ey
                    exact .inr ⟨a, ys, _, k, w, rfl, rfl, hy, by omega, by omega, by rw [ry.length]; exact ek, hw, wrLst r ea (ry.eraseIdx k) rw' p⟩
                  · exact p.elim
                · exact p.elim
              · exact p.elim
            · exact p.elim
        · exact p.elim
      split at e
      · cases e; subst nm
        refine ⟨_, _, _, ⟨PySem.F.plainAttrs_list, PySem.F.slot_list_extend, PySem.F.type_list_extend, mt_extend⟩, ty, fun io h H st v x vs ds Q r rv rs p => ?_⟩
        dsimp only [mthF] at p
        split at p
        · cases rs with
          | cons q t =>
            cases t
            split at p
            · rename_i xs ys e1 e2
              obtain ⟨a, us, rfl, ea, hu, ru⟩ := r.isLst rv e1
              obtain ⟨b, ws, rfl, eb, hw, rw'⟩ := r.isLst q e2
              split at p
              · exact ⟨a, b, us, ws, rfl, rfl, hu, hw, by rw [ru.length, rw'.length]; omega, wrLst r ea (ru.append rw') .non p⟩
              · exact p.elim
            · exact p.elim
        · exact p.elim
      split at e
      · cases e; subst nm
        refine ⟨_, _, _, ⟨PySem.F.plainAttrs_list, PySem.F.slot_list_index, PySem.F.type_list_index, mt_index⟩, ty, fun io h H st v x vs ds Q r rv rs p => ?_⟩
        rw [← hK]
        dsimp only [mthF] at p
        split at p
        · cases rs with
          | cons q t =>
            cases t
            split at p
            · rename_i xs e1
              obtain ⟨a, ys, rfl, ea, hy, ry⟩ := r.isLst rv e1
              split at p
              · rename_i c
                rw [Bool.and_eq_true] at c
                obtain ⟨d, e2, p⟩ := retD_post p
                obtain ⟨j, e3, rfl⟩ := map_inv e2
                obtain ⟨z, h1, h2, h3⟩ := idx_rel q c.1 ry c.2 e3
                exact ⟨a, ys, _, j, z, rfl, rfl, SqL.of hy, flat_of q c.1, flats_of ry c.2, h1, h2, h3, p.here r (.int _)⟩
              · exact p.elim
            · exact p.elim
        · exact p.elim
      split at e
      · cases e; subst nm
        refine ⟨_, _, _, ⟨PySem.F.plainAttrs_list, PySem.F.slot_list_count, PySem.F.type_list_count, mt_lcount⟩, ty, fun io h H st v x vs ds Q r rv rs p => ?_⟩
        rw [← hK]
        dsimp only [mthF] at p
        split at p
        · cases rs with
          | cons q t =>
            cases q; cases t
            split at p
            · rename_i xs e1
              obtain ⟨a, ys, rfl, ea, hy, ry⟩ := r.isLst rv e1
              obtain ⟨d, e2, p⟩ := retD_post p
              obtain ⟨ns, e3, rfl⟩ := map_inv e2
              have hx := intsOf_rel e3 ry
              subst hx
              exact ⟨a, ns, _, rfl, rfl, SqL.of hy, p.here r (.int _)⟩
            · exact p.elim
        · exact p.elim
      cases e
    · cases e
  | _ => cases e
end PyI
-- PyG0
/-! PyG: what a loop walks -/
namespace PyI
open PySem PySem.Spec PyProof.Rows L2

/-! ### enumerate(t), t a tuple; enumerate(x), x a text -/
theorem enum_newB {v : Value} {o : Obj} {H : Heap → Prop} (B : Begins v o H) :
    Meets (Builtin.«enumerate.__new__» ⟨[.type "enumerate", v], []⟩) (fun _ R s => H s.heap ∧
      R (.ok (.ret (.ref (s.heap.push o).objs.size))) { s with heap := (s.heap.push o).push { cls := .type "enumerate", data := .fields #[.none, .bool false, .ref s.heap.objs.size, rawInt 0, .none, .none] } }) :=
  .of_wp fun prog w A R s h => by
    obtain ⟨hp, g, d, tk, os⟩ := s
    obtain ⟨hH, hR⟩ := h
    have hsub := sub_enumerate
    have go : ∀ {A' : Around} {E : Value → Shared → Prop} {Q : Value → Shared → Prop}, Q (.ref hp.objs.size) ⟨hp.push o, g, d, tk, os⟩ → wpAny (model prog w) A' (pyIter v) Q E ⟨hp, g, d, tk, os⟩ :=
      fun q => B.iter prog w _ _ ⟨hp, g, d, tk, os⟩ _ hH q
    wp_walk using go
    refine wpAny_stack_any fun st => wpAny_pure ?_
    split
    · rename_i c _ _ _ _ _
      cases (c == Value.type "enumerate")
      · wp_walk using go
        exact ⟨_, rfl, hR⟩
      · wp_walk using go
        exact ⟨_, rfl, hR⟩
    · wp_walk using go
      exact ⟨_, rfl, hR⟩
end PyI
-- PyH
namespace PyI
open PySem PySem.Spec PyProof.Rows L2
theorem enum_begins1 {prog : Program} {w : World} {A : Around} {E : Value → Shared → Prop} {s : Shared} {v : Value} {o : Obj} {H : Heap → Prop} {Q : Value → Shared → Prop} (B : Begins v o H) (h1 : H s.heap)
    (h : ∀ h', IsEnum h' (s.heap.objs.size + 1) s.heap.objs.size 0 .none → h'.get? s.heap.objs.size = some o →
      (∀ b u, s.heap.get? b = some u → h'.get? b = some u) → Q (.ref (s.heap.objs.size + 1)) { s with heap := h' }) :
    wpAny (model prog w) A (call (.type "enumerate") [v]) Q E s := by
  refine callType_new F.called_enumerate (by decide) (F.typeCall_enumerate_1 _) (F.newCall_enumerate_1 _) (fun obj => F.args_object_init_2 obj _) F.entry_enumerate_new (enum_newB B) ⟨h1, ?_⟩
  have hz : (s.heap.push o).objs.size = s.heap.objs.size + 1 := Heap.size_push ..
  show _ ∧ _
  rw [hz]
  have he : IsEnum ((s.heap.push o).push { cls := .type "enumerate", data := .fields #[.none, .bool false, .ref s.heap.objs.size, rawInt 0, .none, .none] }) (s.heap.objs.size + 1) s.heap.objs.size 0 .none := by
    have q := Heap.get?_push_size (s.heap.push o) (o := { cls := .type "enumerate", data := .fields #[.none, .bool false, .ref s.heap.objs.size, rawInt 0, .none, .none] }) rfl
    rw [hz] at q
    exact q
  exact ⟨⟨_, he, rfl⟩, h _ he (Heap.get?_push_of_some _ (Heap.get?_push_size _ B.free)) fun b u x => Heap.get?_push_of_some _ (Heap.get?_push_of_some _ x)⟩
/-- pairs (i, x), x told by P, while G holds -/
def IteG (n : Nat) (P : Nat → V → Prop) (G : Hp → Prop) : It :=
  ⟨fun i H => i < n ∧ G H, fun i H v H' => ∃ T x, v = .ref T ∧ H T = none ∧ H' = upd H T (.tup [.int (i : Nat), x]) ∧ P i x, fun i H => n ≤ i ∧ G H⟩
/-- how an iterator draws the items -/
structure Src (P : Program) (w : World) (K : PySem.W.Frag) (it : Addr) (n : Nat) (PV : Nat → V → Prop) (G : Hp → Prop) (I0 : Nat → Heap → Prop) (e : Addr) : Prop where
  keep : ∀ i h h', I0 i h → (∀ o, h.get? it = some o → h'.get? it = some o) → I0 i h'
  live : ∀ i h, I0 i h → ∃ o, h.get? it = some o ∧ ∀ v, o.data ≠ .cell v
  draw : ∀ (X : Cx), X.prog = P → X.w = w → X.K = K → X.calm = true → ∀ (pins : List (Addr × Obj)) (st : L2.St) (H : Hp) (s : Shared), Inv X pins st H s → G H →
    ∃ (fp : List Addr) (Pv : Nat → Value → Prop) (Sv : Nat → Heap → Prop), Draws P w X.A.in1 it fp n Pv Sv ∧ e ∉ fp ∧ (∀ i, I0 i s.heap → Sv i s.heap) ∧ (∀ i h, Sv i h → I0 i h) ∧ ∀ i u, Pv i u → ∃ x, RelV x u ∧ PV i x
theorem turn_enumG {P : Program} {w : World} {K : PySem.W.Frag} {elts : List Expr} {kk : Nat} {tpos : Pos} {n : Nat} {PV : Nat → V → Prop} {G : Hp → Prop} {I0 : Nat → Heap → Prop} (e it : Addr) (S : Src P w K it n PV G I0 e) :
    Turn P w K (.Tuple elts kk tpos) (IteG n PV G) [e, it] e (fun i h => (∃ old, IsEnum h e it ((i : Nat) : Int) old) ∧ I0 i h ∧ e ≠ it ∧ i ≤ n) where
  mem := by simp
  obj := fun i h z b hb => by
    obtain ⟨⟨old, he⟩, z, _⟩ := z
    have hb' : b = e ∨ b = it := by simpa using hb
    rcases hb' with q | q
    · subst q; exact ⟨_, he, fun v q => nomatch q⟩
    · subst q; exact S.live i h z
  keep := fun i h h' z k => ⟨let ⟨old, he⟩ := z.1; ⟨old, k e (by simp) _ he⟩, S.keep i h h' z.2.1 fun o q => k it (by simp) o q, z.2.2⟩
  item := by
    intro X hP hw hK hc i pins s st H E I hf z hg
    obtain ⟨⟨old, he⟩, hit, hne, hle⟩ := z
    obtain ⟨hlt, g⟩ := hg
    obtain ⟨fp, Pv, Sv, D, hef, q1, q2, q3⟩ := S.draw X hP hw hK hc pins st H s I g
    subst hP hw hK
    have hel : e < s.heap.objs.size := Heap.lt_size he
    have hil : it < s.heap.objs.size := by obtain ⟨_, q, _⟩ := S.live _ _ hit; exact Heap.lt_size q
    refine wpAny_pyNext_enum_itemD D he (q1 i hit) hlt hne hef fun u h' tk hu ho hst' hT hsz hk => ?_
    obtain ⟨x, rx, px⟩ := q3 i u hu
    refine ⟨_, rfl, wpAny_letOwnedTupleGo_enum (s := { s with heap := h', toks := tk + 1 }) ho fun h2 he2 sb => ?_⟩
    have hT2 : h2.get? s.heap.objs.size = some { cls := .type "tuple", data := .seq #[.int i tk, u] } := (sb.2 _ (Nat.ne_of_gt hel)).trans hT
    have new : ObjOk X.prog X.w (upd H s.heap.objs.size (.tup [.int (i : Nat), x])) h2 s.heap.objs.size (.tup [.int (i : Nat), x]) :=
      ⟨by show 2 ≤ sizeLine; decide, [.int i tk, u], .cons ⟨_, rfl⟩ (.cons rx .nil), ⟨_, hT2, rfl, _, rfl⟩⟩
    have I1 : Inv X pins st (upd H s.heap.objs.size (.tup [.int (i : Nat), x])) { s with heap := h2, toks := tk + 1 } :=
      I.turnedNew (ch := [e, it]) (fun b ob hb q => (sb.2 b (fun z => hb (by simp [z]))).trans (hk b ob (fun z => hb (by simp [z])) (fun z => hb (by simp [z])) q)) hf (Nat.le_refl _) new
    refine ⟨.ref s.heap.objs.size, _, I1, rfl, ⟨_, x, rfl, I.hok.fresh (Nat.le_refl _), rfl, px⟩, ⟨⟨u, ?_⟩, S.keep _ _ _ (q2 _ _ hst') fun o q => (sb.2 it (Ne.symm hne)).trans q, hne, hlt⟩, fun b hb => ?_⟩
    · have e1 : ((i + 1 : Nat) : Int) = (i : Int) + 1 := by omega
      rw [e1]; exact he2
    · have hb' : b = e ∨ b = it := by simpa using hb
      have hbs : b < s.heap.objs.size := by
        rcases hb' with z | z
        · rw [z]; exact hel
        · rw [z]; exact hil
      rw [upd_ne (Nat.ne_of_lt hbs)]
      exact (hf b hb).1
  done := by
    intro X hP hw hK hc i pins s st H E I hf z hg
    obtain ⟨⟨old, he⟩, hit, hne, hle⟩ := z
    obtain ⟨hge, g⟩ := hg
    obtain ⟨fp, Pv, Sv, D, hef, q1, q2, q3⟩ := S.draw X hP hw hK hc pins st H s I g
    subst hP hw hK
    have ei : i = n := Nat.le_antisymm hle hge
    subst ei
    obtain ⟨f0, f1, f2, f3, f4, f5⟩ := hf it (by simp)
    exact wpAny_pyNext_enum_endD D he (q1 i hit) fun h' eb => ⟨rfl, I.turned (t' := s.toks) (fun b o hb q => eb b o hb q) f0 f1 f3 f4 f5⟩
  self := fun A i s Q E z h => let ⟨⟨_, he⟩, _⟩ := z; wpAny_pyIter_enum he h
theorem src_tup {P : Program} {w : World} {K : PySem.W.Frag} {it e a : Addr} {xs : List V} (h1 : a ≠ it) (h2 : e ≠ it) (h3 : e ≠ a) : Src P w K it xs.length (fun i x => xs[i]? = some x) (fun H => SqT K H a xs) (fun i h => h.IsTupleIter it a i) e where
  keep := fun i h h' z k => let ⟨o, ho, r⟩ := z; ⟨o, k o ho, r⟩
  live := fun i h z => let ⟨o, ho, hc, hd⟩ := z; ⟨o, ho, fun v q => by rw [hd] at q; cases q⟩
  draw := by
    intro X hP hw hK hc pins st H s I g
    subst hP hw hK
    obtain ⟨its, rv, ht, hz⟩ := I.tuple g
    have hl := rv.length
    refine ⟨[it, a], (fun i v => its.toArray[i]? = some v), (fun i h => h.IsTupleIter it a i ∧ h.IsTuple a its.toArray), (by have D := Draws.tuple (prog := X.prog) (w := X.w) (A := X.A.in1) (I.ok.hd hc) it a h1 its.toArray; rw [List.size_toArray, ← hl] at D; exact D), by simp [h2, h3], fun i z => ⟨z, ht⟩, fun i h z => z.1, fun i u hu => ?_⟩
    have hu : its[i]? = some u := by simpa using hu
    have hi : i < xs.length := by rw [hl]; exact (List.getElem?_eq_some_iff.mp hu).1
    obtain ⟨u2, e2, r2⟩ := rv.get (List.getElem?_eq_getElem hi)
    rw [hu] at e2; cases e2
    exact ⟨_, r2, List.getElem?_eq_getElem hi⟩
theorem src_str {P : Program} {w : World} {K : PySem.W.Frag} {it e : Addr} {x : Str} {t : Tok} (h2 : e ≠ it) : Src P w K it x.cps.size (fun i v => ∃ c, x.cps[i]? = some c ∧ v = .str ⟨#[c]⟩) (fun _ => True) (fun i h => h.IsStrIter it (strIterType x) x t i) e where
  keep := fun i h h' z k => let ⟨o, ho, r⟩ := z; ⟨o, k o ho, r⟩
  live := fun i h z => let ⟨o, ho, hc, hd⟩ := z; ⟨o, ho, fun v q => by rw [hd] at q; cases q⟩
  draw := by
    intro X hP hw hK hc pins st H s I g
    subst hP hw hK
    refine ⟨[it], _, _, Draws.text (prog := X.prog) (w := X.w) (A := X.A.in1) (I.ok.hd hc) it x t, by simp [h2], fun i z => z, fun i h z => z, fun i u hu => ?_⟩
    obtain ⟨c, u', hc', rfl⟩ := hu
    exact ⟨.str ⟨#[c]⟩, ⟨_, rfl⟩, c, hc', rfl⟩
def iEnumA (K : PySem.W.Frag) (ta : TA) : TI := fun st H R' => ta st H fun vs H1 => (∃ a xs, vs = [.ref a] ∧ SqL K H1 a xs ∧ R' (Ite K a) H1) ∨ (∃ a xs, vs = [.ref a] ∧ SqT K H1 a xs ∧ R' (IteG xs.length (fun i x => xs[i]? = some x) fun H => SqT K H a xs) H1) ∨
  ∃ x, vs = [.str x] ∧ R' (IteG x.cps.size (fun i v => ∃ c, x.cps[i]? = some c ∧ v = .str ⟨#[c]⟩) fun _ => True) H1
theorem pi_enumA {X : Cx} {e : Expr} {ta : TA} {p pos tpos : Pos} {elts : List Expr} {kk : Nat} (hg : Gl X "enumerate") (hm : X.mg "enumerate" = none) (ha : PA X [e] ta) (hs : starEach [e] X.env = [(false, eval e X.env)]) :
    PI X (.Tuple elts kk tpos) (.Call (.Name "enumerate" p) [e] [] pos) (iEnumA X.K ta) := by
  refine ⟨fun pins s st H R' I h => ?_⟩
  refine Call_ (ld_blt I hg hm boot_enumerate (PyProof.Rows.callWith_type1 (thn (ha.run pos pins s st H _ I h) fun us s1 ⟨vs, H1, I1, r1, q1⟩ => ?_) hs rfl))
  have fp2 : ∀ {H2 : Hp}, H2 = H1 → ∀ b ∈ [s1.heap.objs.size + 1, s1.heap.objs.size], FpOk X pins H2 b := fun {H2} e b hb => by
    subst e
    have hb' : b = s1.heap.objs.size + 1 ∨ b = s1.heap.objs.size := by simpa using hb
    have hle : s1.heap.objs.size ≤ b := by
      rcases hb' with z | z
      · rw [z]; exact Nat.le_add_right _ _
      · rw [z]; exact Nat.le_refl _
    exact I1.fpOk hle (I1.hok.fresh hle)
  rcases q1 with ⟨a, xs, rfl, hq, q⟩ | ⟨a, xs, rfl, hq, q⟩ | ⟨x, rfl, q⟩
  · rw [Vals.ref1 r1]
    obtain ⟨its, rv, p', hz⟩ := I1.list hq
    refine call_enumerate_list p'.isList fun h' he hit hsz hk => wpAny_pyIter_enum he ?_
    exact ⟨s1.heap.objs.size + 1, [s1.heap.objs.size + 1, s1.heap.objs.size], _, _, H1, rfl, I1.kept (t' := s1.toks) hk, turn_enum a (s1.heap.objs.size + 1) s1.heap.objs.size, ⟨⟨.none, he⟩, hit, Nat.succ_ne_self _⟩, fp2 rfl, q⟩
  · rw [Vals.ref1 r1]
    obtain ⟨its, rv, ht, hz⟩ := I1.tuple hq
    have hal : a < s1.heap.objs.size := by obtain ⟨o, ho, _⟩ := ht; exact Heap.lt_size ho
    refine enum_begins1 (begins_tuple a its.toArray) ht fun h' he hit hk => wpAny_pyIter_enum he ?_
    exact ⟨s1.heap.objs.size + 1, [s1.heap.objs.size + 1, s1.heap.objs.size], _, _, H1, rfl, I1.kept (t' := s1.toks) hk,
      turn_enumG _ _ (src_tup (Nat.ne_of_lt hal) (Nat.succ_ne_self _) (Nat.ne_of_gt (Nat.lt_succ_of_lt hal))), ⟨⟨.none, he⟩, ⟨_, hit, rfl, rfl⟩, Nat.succ_ne_self _, Nat.zero_le _⟩, fp2 rfl, q⟩
  · obtain ⟨u, rfl, t, rfl⟩ := vals1 r1
    refine enum_begins1 (begins_text x t) trivial fun h' he hit hk => wpAny_pyIter_enum he ?_
    exact ⟨s1.heap.objs.size + 1, [s1.heap.objs.size + 1, s1.heap.objs.size], _, _, H1, rfl, I1.kept (t' := s1.toks) hk,
      turn_enumG _ _ (src_str (t := t) (Nat.succ_ne_self _)), ⟨⟨.none, he⟩, ⟨_, hit, rfl, rfl⟩, Nat.succ_ne_self _, Nat.zero_le _⟩, fp2 rfl, q⟩
end PyI
-- PyI0
/-! PyI0: x[::-1] of a list or a text -/
namespace PyI
noncomputable section
open PySem PySem.Spec PyProof.Rows L2
def revS (z : Str) : Str := ⟨z.cps.toList.reverse.toArray⟩
theorem rev_picked (z : Str) (tk : Tok) : ((slicePicked z none none (some (-1, tk))).filterMap (z.cps[·]?)).toArray = z.cps.toList.reverse.toArray := by
  show ((Builtin.Str.strSliceIndices none none (-1) z.length).filterMap (z.cps[·]?)).toArray = _
  have e : Builtin.Str.strSliceIndices none none (-1) z.length = sliceRange ((z.cps.size : Int) - 1) (-1) (-1) := rfl
  rw [e, PySem.W.krv_sliceRange, PySem.W.krv_range, List.filterMap_reverse, PySem.W.krv_all]
section
variable {prog : Program} {w : World} {A : Around} {E : Value → Shared → Prop} {s : Shared}
theorem adjust_rev (n : Nat) : Builtin.Slice.sliceAdjust none none (-1) (n : Int) = ((n : Int) - 1, -1) := by
  unfold Builtin.Slice.sliceAdjust
  rfl
theorem places_rev (n : Nat) : Builtin.Slice.slicePlaces ((n : Int) - 1) (-1) (-1) = n := by
  unfold Builtin.Slice.slicePlaces
  have h1 : ¬ ((-1 : Int) > 0) := by omega
  rw [if_neg h1, Int.neg_neg, Int.ediv_one]
  split <;> omega
theorem sliceApplied_rev {sl : Addr} {vl vu vs : Value} {n : Nat} {Q : Int × Int × Nat → Shared → Prop} (hs : s.heap.IsSliceOf sl vl vu vs) (pl : IsPart vl none) (pu : IsPart vu none) (ps : IsPart vs (some (-1)))
    (h : Q ((n : Int) - 1, -1, n) s) : wpAny (model prog w) A (Builtin.Slice.sliceApplied (.ref sl) (pure (n : Int))) Q E s := by
  obtain ⟨os, hos, hcs, hds⟩ := id hs
  unfold Builtin.Slice.sliceApplied Builtin.Slice.sliceFields
  refine wpAny_bind (wpAny_bind (wpAny_field hos hds (x := vl) rfl (wpAny_bind (wpAny_field hos hds (x := vu) rfl (wpAny_bind (wpAny_field hos hds (x := vs) rfl (wpAny_pure ?_)))))))
  refine wpAny_bind (HT.slicePart_ ps ?_)
  show wpAny _ _ (if ((-1 : Int) == 0) = true then _ else _) _ _ s
  rw [if_neg (by decide)]
  refine wpAny_bind (HT.slicePart_ pl (wpAny_bind (HT.slicePart_ pu (wpAny_bind (wpAny_pure ?_)))))
  show wpAny _ _ (match Builtin.Slice.sliceAdjust none none (-1) (n : Int) with | (lo, hi) => pure (lo, (-1 : Int), Builtin.Slice.slicePlaces lo hi (-1))) _ _ s
  rw [adjust_rev n]
  show wpAny _ _ (pure ((n : Int) - 1, (-1 : Int), Builtin.Slice.slicePlaces ((n : Int) - 1) (-1) (-1))) _ _ s
  rw [places_rev]
  exact wpAny_pure h
theorem fm_congr {α β : Type} {f g : α → Option β} : ∀ {l : List α}, (∀ m ∈ l, f m = g m) → l.filterMap f = l.filterMap g
  | [], _ => rfl
  | a :: l, h => by rw [List.filterMap_cons, List.filterMap_cons, h a List.mem_cons_self, fm_congr fun m hm => h m (List.mem_cons_of_mem _ hm)]
theorem pick_rev (xs : Array Value) : ((List.range xs.size).filterMap fun (m : Nat) => xs[(((xs.size : Nat) : Int) - 1 + (m : Int) * (-1)).toNat]?).toArray = xs.toList.reverse.toArray := by
  congr 1
  rw [← PySem.W.krv_all xs, ← List.filterMap_reverse, ← PySem.W.krv_range, List.filterMap_map]
  refine fm_congr fun m hm => ?_
  have hlt : m < xs.size := List.mem_range.mp hm
  have e : (((xs.size : Nat) : Int) - 1 + (m : Int) * (-1)).toNat = xs.size - 1 - m := by omega
  rw [e]
  rfl
theorem getItem_tuple_rev {t sl : Addr} {items : Array Value} {vl vu vs : Value} {Q : Value → Shared → Prop} (ht : IsTup s.heap t items) (hs : s.heap.IsSliceOf sl vl vu vs) (pl : IsPart vl none) (pu : IsPart vu none) (ps : IsPart vs (some (-1)))
    (h : Q (.ref s.heap.objs.size) { s with heap := s.heap.push { cls := .type "tuple", data := .seq items.toList.reverse.toArray } })
    (hsz : items.size ≤ sizeLine) : wpAny (model prog w) A (getItem (.ref t) (.ref sl)) Q E s := by
  have htake : sizeOk (.seq items.toList.reverse.toArray) := by
    show items.toList.reverse.toArray.size ≤ sizeLine
    rw [List.size_toArray, List.length_reverse, Array.length_toList]
    exact hsz
  obtain ⟨os, hos, hcs, hds⟩ := id hs
  have hTs : s.TypeIs (.ref sl) "slice" := ⟨os, hos, hcs⟩
  unfold getItem
  try with_reducible refine wpAny_holding ?_
  first | refine wpAny_bind (wpAny_pure ?_) | skip
  refine wpAny_bind (wpAny_sequenceKey ht.typeIs (by decide) ?_)
  refine wpAny_bind (wpAny_callSpecial?_slot (name := Str.ofString "__getitem__") ht.typeIs PyProof.Rows.slot_tuple_getitem
    (wpAny_call_entry PyProof.Rows.slot_tuple_getitem ht.typeIs entry_tuple_getitem ?_ (args_tuple_getitem _ _)))
  show wpAny _ _ (Builtin.Tuple.tupleItemsOf (.ref t) >>= _) _ _ s
  refine wpAny_bind (tupleItemsOf_ ht ?_)
  refine wpAny_bind (wpAny_typeOf hTs ?_)
  rw [if_pos (by decide)]
  refine wpAny_bind (sliceApplied_rev hs pl pu ps ?_)
  have hno : ¬ (((((items.size : Nat) : Int) - 1) == 0 && (-1 : Int) == 1 && items.size == items.size) = true) := by simp
  show wpAny _ _ (if ((((items.size : Nat) : Int) - 1) == 0 && (-1 : Int) == 1 && items.size == items.size) = true then _ else _) _ _ s
  rw [if_neg hno, pick_rev]
  first
    | exact wpAny_bind (m := Builtin.Tuple.tupleExact _) (wpAny_newObj_type (wpAny_pure ⟨_, rfl, wpAny_pure h⟩) htake)
    | exact wpAny_bind (m := Builtin.Tuple.tupleExact _) (wpAny_newObj_type (wpAny_bind (wpAny_pure (wpAny_pure ⟨_, rfl, wpAny_pure h⟩))) htake)
    | exact wpAny_bind (wpAny_bind (m := Builtin.Tuple.tupleExact _) (wpAny_newObj_type (wpAny_pure (wpAny_pure ⟨_, rfl, wpAny_pure h⟩)) htake))
    | exact wpAny_bind (wpAny_bind (m := Builtin.Tuple.tupleExact _) (wpAny_newObj_type (wpAny_pure ⟨_, rfl, wpAny_pure h⟩) htake))
end
def tRevA (K : PySem.W.Frag) (te : TE) : TE := fun σ H Q => te σ H fun x H1 => (∃ a xs, x = .ref a ∧ SqL K H1 a xs ∧ ∀ p, H1 p = none → Q (.ref p) (upd H1 p (.lst xs.reverse))) ∨ (∃ a xs, x = .ref a ∧ SqT K H1 a xs ∧ ∀ p, H1 p = none → Q (.ref p) (upd H1 p (.tup xs.reverse))) ∨ ∃ z, x = .str z ∧ z.length ≤ 16777216 ∧ Q (.str (revS z)) H1
theorem pe_revA {X : Cx} {e : Expr} {te : TE} {k : Nat} {p1 p2 p3 pos : Pos} (he : PE X e te) : PE X (.Subscript e (.Slice none none (some (.UnaryOp .USub (.Constant (.int 1) k p1) p2)) p3) pos) (tRevA X.K te) := by
  refine ⟨fun pins s σ H Q I h => ?_⟩
  refine Subscript_ (thn (he.run pins s σ H _ I h) fun v s1 ⟨x, H1, I1, r1, q1⟩ => ?_)
  have hst : PO X (some (.UnaryOp .USub (.Constant (.int 1) k p1) p2)) (tPart (tUn (rU fun i => .int (-i)) (tC (.int 1)))) := po_some (pe_un un_neg pe_int)
  refine wpAny_Slice (thn (po_none.run pins s1 σ H1 (fun o H2 => o = none ∧ H2 = H1) I1 ⟨rfl, rfl⟩) fun vl s2 ⟨l, H2, I2, pl, el, e2⟩ => ?_)
  subst el e2
  refine thn (po_none.run pins s2 σ H2 (fun o H3 => o = none ∧ H3 = H2) I2 ⟨rfl, rfl⟩) fun vu s3 ⟨u, H3, I3, pu, eu, e3⟩ => ?_
  subst eu e3
  refine thn (hst.run pins s3 σ H3 (fun o H4 => o = some (-1) ∧ H4 = H3) I3 ⟨1, rfl, -1, rfl, rfl, rfl⟩) fun vs s4 ⟨o, H4, I4, ps, eo, e4⟩ => ?_
  subst eo e4
  have I5 : Inv X pins σ H4 { s4 with heap := s4.heap.push { cls := .type "slice", data := .fields #[vl, vu, vs] } } := I4.kept (t' := s4.toks) fun b ob q => Heap.get?_push_of_some _ q
  rcases q1 with ⟨a, xs, ex, hx, q⟩ | ⟨a, xs, ex, hx, q⟩ | ⟨z, ex, hz, q⟩
  · subst ex
    cases r1
    obtain ⟨its, r, ht, hz⟩ := I5.list hx
    have hlen := r.length
    show wpAny (model X.prog X.w) X.A (subscriptTail e (.Slice none none (some (.UnaryOp .USub (.Constant (.int 1) k p1) p2)) p3) (.ref a) (.ref s4.heap.objs.size)) (EP X pins σ Q) X.xe { s4 with heap := s4.heap.push { cls := .type "slice", data := .fields #[vl, vu, vs] } }
    refine tail_any (ops := [.ref a, .ref s4.heap.objs.size]) ht.isList.typeIs (PySem.slot_list_getitem.lookup) ?_ (by with_unfolding_all rfl)
    refine wpAny_getItem_list_slice ht.isList (Heap.IsSliceOf.new _ vl vu vs) pl pu ps (by decide) ?_ (by rw [List.size_toArray]; omega)
    rw [PySem.W.krv_pick]
    refine ⟨.ref _, _, I5.laid (t' := s4.toks) (o := .lst xs.reverse) (fun b ob q => Heap.get?_push_of_some _ q) (Nat.le_refl _) ?_, rfl, q _ (I5.hok.fresh (Nat.le_refl _))⟩
    exact ⟨by rw [List.length_reverse]; exact hz, _, 0, r.reverse, Heap.get?_push_size _ rfl⟩
  · subst ex
    cases r1
    obtain ⟨its, r, ht, hz⟩ := I5.tuple hx
    have hlen := r.length
    show wpAny (model X.prog X.w) X.A (subscriptTail e (.Slice none none (some (.UnaryOp .USub (.Constant (.int 1) k p1) p2)) p3) (.ref a) (.ref s4.heap.objs.size)) (EP X pins σ Q) X.xe { s4 with heap := s4.heap.push { cls := .type "slice", data := .fields #[vl, vu, vs] } }
    refine tail_any (ops := [.ref a, .ref s4.heap.objs.size]) ht.typeIs (PyProof.Rows.slot_tuple_getitem.lookup) ?_ (by with_unfolding_all rfl)
    refine getItem_tuple_rev ht (Heap.IsSliceOf.new _ vl vu vs) pl pu ps ?_ (by rw [List.size_toArray]; omega)
    refine ⟨.ref _, _, I5.laid (t' := s4.toks) (o := .tup xs.reverse) (fun b ob q => Heap.get?_push_of_some _ q) (Nat.le_refl _) ?_, rfl, q _ (I5.hok.fresh (Nat.le_refl _))⟩
    exact ⟨by rw [List.length_reverse]; exact hz, _, r.reverse, IsTup.new _ _⟩
  · subst ex
    obtain ⟨t, rfl⟩ := r1
    obtain ⟨l, rfl, el⟩ := IsPart.raw pl
    obtain ⟨u, rfl, eu⟩ := IsPart.raw pu
    obtain ⟨st, rfl, es⟩ := IsPart.raw ps
    cases l with
    | some _ => cases el
    | none =>
      cases u with
      | some _ => cases eu
      | none =>
        cases st with
        | none => cases es
        | some st =>
          obtain ⟨i, tk⟩ := st
          have ei : i = -1 := Option.some.inj es
          subst ei
          show wpAny (model X.prog X.w) X.A (subscriptTail e (.Slice none none (some (.UnaryOp .USub (.Constant (.int 1) k p1) p2)) p3) (.str z t) (.ref s4.heap.objs.size)) (EP X pins σ Q) X.xe { s4 with heap := s4.heap.push { cls := .type "slice", data := .fields #[partValue none, partValue none, partValue (some (-1, tk))] } }
          refine tail_any (ops := [.str z t, .ref s4.heap.objs.size]) (typeIs_str _ _ _) (F.slot_str_getitem.lookup) ?_ (by with_unfolding_all rfl)
          refine wpAny_getItem_str_slice (l := none) (u := none) (st := some (-1, tk)) ⟨_, Heap.get?_push_size _ rfl, rfl, rfl⟩ rfl ?_
          show Made.post (if ((-1 : Int) == 1 && (slicePicked z none none (some (-1, tk))).length == z.length) = true then Made.val (.str z t) else Made.str ⟨((slicePicked z none none (some (-1, tk))).filterMap (z.cps[·]?)).toArray⟩) (EP X pins σ Q) _
          rw [if_neg (by simp), rev_picked]
          have hl : (revS z).length ≤ sizeLine := by
            show z.cps.toList.reverse.toArray.size ≤ sizeLine
            rw [List.size_toArray, List.length_reverse, Array.length_toList, sizeLine_eq]
            exact hz
          exact ⟨hl, .str (revS z), H4, I5.tok _, ⟨_, rfl⟩, q⟩
end
end PyI
-- PyI
/-! PyI: the mirror's combinators and their readings -/
namespace PyI
noncomputable section
open PySem PySem.Spec PyProof.Rows L2

def strict {α : Type} : Res α → Res α
  | .ok a h => .ok a h
  | _ => .no
abbrev MO := DS → DH → Res (Option Int)
def mNo : ME := fun _ _ => .no
def mLit (d : D) : ME := fun _ h => .ok d h
def mVar (i : Nat) : ME := fun s h => match s[i]? with
  | some (some d) => .ok d h
  | _ => .no
def mBin (f : D → D → DH → Res D) (a b : ME) : ME := fun s h => (a s h).bind fun x h1 => (b s h1).bind fun y h2 => f x y h2
def mNeg (a : ME) : ME := fun s h => (a s h).bind fun x h1 => match x with
  | .int i => .ok (.int (-i)) h1
  | _ => .no
def asB (r : Res D) : Res Bool := r.bind fun x h => match x with
  | .bl b => .ok b h
  | _ => .no
def mNotE (a : ME) : ME := fun s h => (asB (a s h)).bind fun b h1 => .ok (.bl (!b)) h1
def mAndE : List ME → ME
  | [] => mNo
  | [a] => a
  | a :: r => fun s h => (asB (a s h)).bind fun b h1 => if b then mAndE r s h1 else .ok (.bl false) h1
def mOrE : List ME → ME
  | [] => mNo
  | [a] => a
  | a :: r => fun s h => (asB (a s h)).bind fun b h1 => if b then .ok (.bl true) h1 else mOrE r s h1
def tNo : MT := fun _ _ => .no
def mAndT : List MT → MT
  | [] => tNo
  | [a] => a
  | a :: r => fun s h => (a s h).bind fun b h1 => if b then mAndT r s h1 else .ok false h1
def mOrT : List MT → MT
  | [] => tNo
  | [a] => a
  | a :: r => fun s h => (a s h).bind fun b h1 => if b then .ok true h1 else mOrT r s h1
def mNotT (a : MT) : MT := fun s h => (a s h).bind fun b h1 => .ok (!b) h1
def mB (a : ME) : MT := fun s h => asB (a s h)
def truOf (d : D) (h : DH) : Option Bool := match d with
  | .non => some false
  | .bl b => some b
  | .int i => some (i != 0)
  | .str y => if y.length ≤ 16777216 then some ((y.length : Int) != 0) else none
  | d => (listOf h d).map fun l => !l.isEmpty
def mTru (a : ME) : MT := fun s h => (a s h).bind fun x h1 => match truOf x h1 with
  | some b => .ok b h1
  | none => .no
def mChain (f g : D → D → DH → Res D) (a b c : ME) : ME := fun s h => (a s h).bind fun x h1 => (b s h1).bind fun y h2 => (asB (f x y h2)).bind fun k h3 => if k then (c s h3).bind fun z h4 => g y z h4 else .ok (.bl false) h3
def mIf (t : MT) (a b : ME) : ME := fun s h => (t s h).bind fun k h1 => if k then a s h1 else b s h1
def mArgs : List ME → MA
  | [] => fun _ h => .ok [] h
  | a :: r => fun s h => (a s h).bind fun x h1 => (mArgs r s h1).bind fun xs h2 => .ok (x :: xs) h2
def mTup (l : List ME) : ME := fun s h => (mArgs l s h).bind fun xs h1 => if xs.length ≤ 16777216 then .ok (.tup xs) h1 else .no
def mLst (l : List ME) : ME := fun s h => (mArgs l s h).bind fun xs h1 => if xs.length ≤ 16777216 then .ok (.ref h1.length) (h1 ++ [.lst xs]) else .no
def mPart (a : ME) : MO := fun s h => (a s h).bind fun x h1 => match x with
  | .int i => .ok (some i) h1
  | _ => .no
def oNone : MO := fun _ h => .ok none h
def mSl (a : ME) (lo hi : MO) : ME := fun s h => (a s h).bind fun x h1 => (lo s h1).bind fun l h2 => (hi s h2).bind fun u h3 => opSl x l u h3

def mRev (a : ME) : ME := fun s h => (a s h).bind fun x h1 => match x with
  | .ref n => match listOf h1 (.ref n) with
    | some l => .ok (.ref h1.length) (h1 ++ [.lst l.reverse])
    | none => .no
  | .tup ds => .ok (.tup ds.reverse) h1
  | .str z => if z.length ≤ 16777216 then .ok (.str (revS z)) h1 else .no
  | _ => .no
def mSortLen (a : ME) : ME := fun s h => (a s h).bind fun x h1 => match x with
  | .ref n => match (listOf h1 (.ref n)).bind strsOf with
    | some ss => if ss.all (fun z => decide (z.length ≤ 16777216)) = true then .ok (.ref h1.length) (h1 ++ [.lst ((ss.mergeSort lenLe).map .str)]) else .no
    | none => .no
  | _ => .no
def mBlt (b : Blt) (l : List ME) : ME := fun s h => (mArgs l s h).bind fun xs h1 => bltF b xs h1
def mMeth (nm : Str) (o : ME) (l : List ME) : ME := fun s h => (o s h).bind fun x h1 => match mthOf nm x h1 with
  | some m => (mArgs l s h1).bind fun xs h2 => mthF m x xs h2
  | none => .no
def mDict0 : ME := fun _ h => .ok (.ref h.length) (h ++ [.dic []])
def permOf (pm : List Nat) (xs : List D) : Option (List D) := pm.mapM fun j => xs[j]?
def mCall (F : List D → DH → Res D) (pm : List Nat) (l : List ME) : ME := fun s h => (mArgs l s h).bind fun xs h1 => match permOf pm xs with
  | some ys => F ys h1
  | none => .no

section
variable {Z : Zx} {st : L2.St} {H : Hp} {Q : VK} {a b c : ME}
theorem OpS.mono {r r' : R2} {f : D → D → DH → Res D} (h : OpS Z r f) (e : ∀ x y H Q, r x y H Q → r' x y H Q) : OpS Z r' f := fun io h0 H st x y dx dy Q a b c p => e _ _ _ _ (h io h0 H st x y dx dy Q a b c p)
theorem s_lit {d : D} (h : tM Z (mLit d) st H Q) {v : V} (r : ∀ io, DRel Z.K io H v d) : tC v st H Q := by
  obtain ⟨io, s, h0, hR, hE, p⟩ := h
  exact p.here hR (r io)
theorem s_var {i : Nat} (h : tM Z (mVar i) st H Q) : tVar i st H Q := by
  obtain ⟨io, s, h0, hR, hE, p⟩ := h
  dsimp only [mVar] at p
  split at p
  · rename_i d e
    obtain ⟨v, h1, h2⟩ := hE.get i d e
    exact ⟨v, h1, p.here hR h2⟩
  · exact p.elim
theorem s_bin {r : R2} {f : D → D → DH → Res D} (hs : OpS Z r f) (h : tM Z (mBin f a b) st H Q) : tOp r (tM Z a) (tM Z b) st H Q := by
  obtain ⟨io, s, h0, hR, hE, p⟩ := h
  refine ⟨io, s, h0, hR, hE, (PostR.bind (rel1 := DRel Z.K) p).imp fun x H1 hx => ?_⟩
  obtain ⟨io1, h1, d1, t1, R1, r1, p1⟩ := hx
  refine ⟨io1, s, h1, R1, hE.mono t1, (PostR.bind (rel1 := DRel Z.K) p1).imp fun y H2 hy => ?_⟩
  obtain ⟨io2, h2, d2, t2, R2, r2, p2⟩ := hy
  exact hs io2 h2 H2 st x y d1 d2 Q R2 (r1.mono t2) r2 p2
theorem asB_post {io : List Addr} {r : Res D} {f : Bool → DH → Res D} (p : PostR Z io H st (DRel Z.K) ((asB r).bind f) Q) : PostR Z io H st (DRel Z.K) (r.bind fun x h => match x with | .bl k => f k h | _ => .no) Q := by
  cases r with
  | ok d h => cases d <;> exact p
  | exc x h => exact p
  | no => exact p
theorem s_neg (h : tM Z (mNeg a) st H Q) : tUn (rU fun i => .int (-i)) (tM Z a) st H Q := by
  obtain ⟨io, s, h0, hR, hE, p⟩ := h
  refine ⟨io, s, h0, hR, hE, (PostR.bind (rel1 := DRel Z.K) p).imp fun x H1 hx => ?_⟩
  obtain ⟨io1, h1, d1, t1, R1, r1, p1⟩ := hx
  cases d1 with
  | int i => cases r1; exact ⟨i, rfl, p1.here R1 (.int _)⟩
  | _ => exact p1.elim
theorem s_notE (h : tM Z (mNotE a) st H Q) : tNotV (tM Z a) st H Q := by
  obtain ⟨io, s, h0, hR, hE, p⟩ := h
  refine ⟨io, s, h0, hR, hE, (PostR.bind (rel1 := DRel Z.K) (asB_post p)).imp fun x H1 hx => ?_⟩
  obtain ⟨io1, h1, d1, t1, R1, r1, p1⟩ := hx
  cases d1 with
  | bl i => cases r1; exact ⟨i, rfl, p1.here R1 (.bl _)⟩
  | _ => exact p1.elim
theorem s_andE {m : ME} {r : List ME} (h : tM Z (mAndE (a :: m :: r)) st H Q) : tAndV (tM Z a) (tM Z (mAndE (m :: r))) st H Q := by
  obtain ⟨io, s, h0, hR, hE, p⟩ := h
  refine ⟨io, s, h0, hR, hE, (PostR.bind (rel1 := DRel Z.K) (asB_post p)).imp fun x H1 hx => ?_⟩
  obtain ⟨io1, h1, d1, t1, R1, r1, p1⟩ := hx
  cases d1 with
  | bl k =>
    cases r1
    refine ⟨k, rfl, ?_⟩
    cases k with
    | true => rw [if_pos rfl]; exact ⟨io1, s, h1, R1, hE.mono t1, p1⟩
    | false => rw [if_neg Bool.false_ne_true]; exact PostR.here (rel := DRel Z.K) p1 R1 (.bl _)
  | _ => exact p1.elim
theorem s_orE {m : ME} {r : List ME} (h : tM Z (mOrE (a :: m :: r)) st H Q) : tOrV (tM Z a) (tM Z (mOrE (m :: r))) st H Q := by
  obtain ⟨io, s, h0, hR, hE, p⟩ := h
  refine ⟨io, s, h0, hR, hE, (PostR.bind (rel1 := DRel Z.K) (asB_post p)).imp fun x H1 hx => ?_⟩
  obtain ⟨io1, h1, d1, t1, R1, r1, p1⟩ := hx
  cases d1 with
  | bl k =>
    cases r1
    refine ⟨k, rfl, ?_⟩
    cases k with
    | true => rw [if_pos rfl]; exact PostR.here (rel := DRel Z.K) p1 R1 (.bl _)
    | false => rw [if_neg Bool.false_ne_true]; exact ⟨io1, s, h1, R1, hE.mono t1, p1⟩
  | _ => exact p1.elim
theorem s_if {t : MT} (h : tM Z (mIf t a b) st H Q) : tIf (tMT Z t) (tM Z a) (tM Z b) st H Q := by
  obtain ⟨io, s, h0, hR, hE, p⟩ := h
  refine ⟨io, s, h0, hR, hE, (PostR.bind (rel1 := fun _ _ (b c : Bool) => b = c) p).imp fun x H1 hx => ?_⟩
  obtain ⟨io1, h1, d1, t1, R1, r1, p1⟩ := hx
  subst r1
  cases x with
  | true => rw [if_pos rfl]; exact ⟨io1, s, h1, R1, hE.mono t1, p1⟩
  | false => rw [if_neg Bool.false_ne_true]; exact ⟨io1, s, h1, R1, hE.mono t1, p1⟩
theorem s_nil {QA : List V → Hp → Prop} (h : tMA Z (mArgs []) st H QA) : tNil st H QA := by
  obtain ⟨io, s, h0, hR, hE, p⟩ := h
  exact p.here hR .nil
theorem s_cons {r : List ME} {QA : List V → Hp → Prop} (h : tMA Z (mArgs (a :: r)) st H QA) : tCons (tM Z a) (tMA Z (mArgs r)) st H QA := by
  obtain ⟨io, s, h0, hR, hE, p⟩ := h
  refine ⟨io, s, h0, hR, hE, (PostR.bind (rel1 := DRel Z.K) p).imp fun x H1 hx => ?_⟩
  obtain ⟨io1, h1, d1, t1, R1, r1, p1⟩ := hx
  refine ⟨io1, s, h1, R1, hE.mono t1, (PostR.bind (rel1 := DRels Z.K) p1).imp fun xs H2 hy => ?_⟩
  obtain ⟨io2, h2, d2, t2, R2, r2, p2⟩ := hy
  exact p2.here R2 (.cons (r1.mono t2) r2)
theorem s_tup {l : List ME} (h : tM Z (mTup l) st H Q) : tTup (tMA Z (mArgs l)) st H Q := by
  have hl := sizeLine_eq
  obtain ⟨io, s, h0, hR, hE, p⟩ := h
  refine ⟨io, s, h0, hR, hE, (PostR.bind (rel1 := DRels Z.K) p).imp fun x H1 hx => ?_⟩
  obtain ⟨io1, h1, d1, t1, R1, r1, p1⟩ := hx
  split at p1
  · exact ⟨by rw [r1.length]; omega, fun q hq => newTup R1 r1 p1 hq⟩
  · exact p1.elim
theorem s_lst {l : List ME} (h : tM Z (mLst l) st H Q) : tLst (tMA Z (mArgs l)) st H Q := by
  have hl := sizeLine_eq
  obtain ⟨io, s, h0, hR, hE, p⟩ := h
  refine ⟨io, s, h0, hR, hE, (PostR.bind (rel1 := DRels Z.K) p).imp fun x H1 hx => ?_⟩
  obtain ⟨io1, h1, d1, t1, R1, r1, p1⟩ := hx
  split at p1
  · exact ⟨by rw [r1.length]; omega, fun q hq => newLst R1 r1 p1 hq⟩
  · exact p1.elim
def tMO (Z : Zx) (m : MO) : TO := fun st H Q => ∃ io s h, R Z.K io h H ∧ EnvR Z.K io H st s ∧ PostR Z io H st (fun _ _ (x y : Option Int) => x = y) (m s h) Q
theorem s_oNone {QO : Option Int → Hp → Prop} (h : tMO Z oNone st H QO) : tNoPart st H QO := by
  obtain ⟨io, s, h0, hR, hE, p⟩ := h
  exact p.here hR rfl
theorem s_part {QO : Option Int → Hp → Prop} (h : tMO Z (mPart a) st H QO) : tPart (tM Z a) st H QO := by
  obtain ⟨io, s, h0, hR, hE, p⟩ := h
  refine ⟨io, s, h0, hR, hE, (PostR.bind (rel1 := DRel Z.K) p).imp fun x H1 hx => ?_⟩
  obtain ⟨io1, h1, d1, t1, R1, r1, p1⟩ := hx
  cases d1 with
  | int i => cases r1; exact ⟨i, rfl, p1.here R1 rfl⟩
  | _ => exact p1.elim
theorem s_sl {lo hi : MO} (h : tM Z (mSl a lo hi) st H Q) : tSl (rSlAny Z.K) (tM Z a) (tMO Z lo) (tMO Z hi) st H Q := by
  obtain ⟨io, s, h0, hR, hE, p⟩ := h
  refine ⟨io, s, h0, hR, hE, (PostR.bind (rel1 := DRel Z.K) p).imp fun x H1 hx => ?_⟩
  obtain ⟨io1, h1, d1, t1, R1, r1, p1⟩ := hx
  refine ⟨io1, s, h1, R1, hE.mono t1, (PostR.bind (rel1 := fun _ _ (x y : Option Int) => x = y) p1).imp fun l H2 hy => ?_⟩
  obtain ⟨io2, h2, d2, t2, R2, r2, p2⟩ := hy
  subst r2
  refine ⟨io2, s, h2, R2, (hE.mono t1).mono t2, (PostR.bind (rel1 := fun _ _ (x y : Option Int) => x = y) p2).imp fun u H3 hz => ?_⟩
  obtain ⟨io3, h3, d3, t3, R3, r3, p3⟩ := hz
  subst r3
  exact opSl_ok Z R3 ((r1.mono t2).mono t3) p3
theorem s_rev (h : tM Z (mRev a) st H Q) : tRevA Z.K (tM Z a) st H Q := by
  obtain ⟨io, s, h0, hR, hE, p⟩ := h
  refine ⟨io, s, h0, hR, hE, (PostR.bind (rel1 := DRel Z.K) p).imp fun x H1 hx => ?_⟩
  obtain ⟨io1, h1, d1, t1, R1, r1, p1⟩ := hx
  cases d1 with
  | ref n =>
    dsimp only at p1
    split at p1
    · rename_i l e
      obtain ⟨q, xs, rfl, hs, rx⟩ := listRef_rel R1 r1 e
      exact .inl ⟨q, xs, rfl, hs, fun k hk => newLst R1 rx.rev p1 hk⟩
    · exact p1.elim
  | tup ds =>
    obtain ⟨q, xs, rfl, hs, rx⟩ := r1.tupInv
    exact .inr (.inl ⟨q, xs, rfl, hs, fun k hk => newTup R1 rx.rev p1 hk⟩)
  | str z =>
    cases r1
    dsimp only at p1
    split at p1
    · rename_i hz
      exact .inr (.inr ⟨z, rfl, hz, p1.here R1 (.str _)⟩)
    · exact p1.elim
  | _ => exact p1.elim
theorem s_sortLen (h : tM Z (mSortLen a) st H Q) : tSortLen Z.K (tM Z a) st H Q := by
  obtain ⟨io, s, h0, hR, hE, p⟩ := h
  refine ⟨io, s, h0, hR, hE, (PostR.bind (rel1 := DRel Z.K) p).imp fun x H1 hx => ?_⟩
  obtain ⟨io1, h1, d1, t1, R1, r1, p1⟩ := hx
  cases d1 with
  | ref n =>
    dsimp only at p1
    split at p1
    · rename_i ss e
      split at p1
      · rename_i hz
        obtain ⟨l, e1, e2⟩ := bind_inv e
        obtain ⟨q, xs, rfl, hs, rx⟩ := listRef_rel R1 r1 e1
        have hx := strsOf_rel e2 rx
        subst hx
        exact ⟨q, ss, rfl, hs, fun z hm => of_decide_eq_true (List.all_eq_true.mp hz z hm), fun k hk => newLst R1 (strsRel2 _) p1 hk⟩
      · exact p1.elim
    · exact p1.elim
  | _ => exact p1.elim
theorem s_blt {b : Blt} {l : List ME} {r : List V → Hp → VK → Prop} (hs : CallS Z r (bltF b)) (h : tM Z (mBlt b l) st H Q) : tCB r (tMA Z (mArgs l)) st H Q := by
  obtain ⟨io, s, h0, hR, hE, p⟩ := h
  refine ⟨io, s, h0, hR, hE, (PostR.bind (rel1 := DRels Z.K) p).imp fun x H1 hx => ?_⟩
  obtain ⟨io1, h1, d1, t1, R1, r1, p1⟩ := hx
  exact hs io1 h1 H1 st x d1 Q R1 r1 p1
theorem s_meth (X : Cx) (hK : Z.K = X.K) {nm : Str} {l : List ME} (h : tM Z (mMeth nm a l) st H Q) : tMeth' X nm (tM Z a) (tMA Z (mArgs l)) st H Q := by
  obtain ⟨io, s, h0, hR, hE, p⟩ := h
  refine ⟨io, s, h0, hR, hE, (PostR.bind (rel1 := DRel Z.K) p).imp fun x H1 hx => ?_⟩
  obtain ⟨io1, h1, d1, t1, R1, r1, p1⟩ := hx
  split at p1
  · rename_i m e
    obtain ⟨T, id, r, M, ty, S⟩ := mth_ok X Z hK R1 r1 e
    refine ⟨T, id, r, M, ty, io1, s, h1, R1, hE.mono t1, (PostR.bind (rel1 := DRels Z.K) p1).imp fun y H2 hy => ?_⟩
    obtain ⟨io2, h2, d2, t2, R2, r2, p2⟩ := hy
    exact S io2 h2 H2 st x d1 y d2 Q R2 (r1.mono t2) r2 p2
  · exact p1.elim
theorem s_meth0 (X : Cx) (hK : Z.K = X.K) {nm : Str} (h : tM Z (mMeth nm a []) st H Q) : tMeth0' X nm (tM Z a) st H Q := by
  obtain ⟨io, s, h0, hR, hE, p⟩ := h
  refine ⟨io, s, h0, hR, hE, (PostR.bind (rel1 := DRel Z.K) p).imp fun x H1 hx => ?_⟩
  obtain ⟨io1, h1, d1, t1, R1, r1, p1⟩ := hx
  split at p1
  · rename_i m e
    obtain ⟨T, id, r, M, ty, S⟩ := mth_ok X Z hK R1 r1 e
    exact ⟨T, id, r, M, ty, S io1 h1 H1 st x d1 [] [] Q R1 r1 .nil p1⟩
  · exact p1.elim
theorem s_chain {r r' : R2} {f g : D → D → DH → Res D} (hs : OpS Z r f) (hg : OpS Z r' g) (h : tM Z (mChain f g a b c) st H Q) : tChain r r' (tM Z a) (tM Z b) (tM Z c) st H Q := by
  obtain ⟨io, s, h0, hR, hE, p⟩ := h
  refine ⟨io, s, h0, hR, hE, (PostR.bind (rel1 := DRel Z.K) p).imp fun x H1 hx => ?_⟩
  obtain ⟨io1, h1, d1, t1, R1, r1, p1⟩ := hx
  refine ⟨io1, s, h1, R1, hE.mono t1, (PostR.bind (rel1 := DRel Z.K) p1).imp fun y H2 hy => ?_⟩
  obtain ⟨io2, h2, d2, t2, R2, r2, p2⟩ := hy
  refine hs io2 h2 H2 st x y d1 d2 _ R2 (r1.mono t2) r2 ((PostR.bind (rel1 := DRel Z.K) (asB_post p2)).imp fun z H3 hz => ?_)
  obtain ⟨io3, h3, d3, t3, R3, r3, p3⟩ := hz
  cases d3 with
  | bl k =>
    cases r3
    refine ⟨k, rfl, ?_⟩
    cases k with
    | true =>
      rw [if_pos rfl]
      refine ⟨io3, s, h3, R3, ((hE.mono t1).mono t2).mono t3, (PostR.bind (rel1 := DRel Z.K) p3).imp fun w H4 hw => ?_⟩
      obtain ⟨io4, h4, d4, t4, R4, r4, p4⟩ := hw
      exact hg io4 h4 H4 st y w d2 d4 Q R4 ((r2.mono t3).mono t4) r4 p4
    | false => rw [if_neg Bool.false_ne_true]; exact PostR.here (rel := DRel Z.K) p3 R3 (.bl _)
  | _ => exact p3.elim
/-! tests -/
variable {QT : Bool → Hp → Prop}
theorem s_mB (h : tMT Z (mB a) st H QT) : tTest (tM Z a) st H QT := by
  obtain ⟨io, s, h0, hR, hE, p⟩ := h
  refine ⟨io, s, h0, hR, hE, (PostR.bind (rel1 := DRel Z.K) p).imp fun x H1 hx => ?_⟩
  obtain ⟨io1, h1, d1, t1, R1, r1, p1⟩ := hx
  cases d1 with
  | bl k => cases r1; exact ⟨k, rfl, p1.here R1 rfl⟩
  | _ => exact p1.elim
theorem tru_rel {io : List Addr} {h : DH} {v : V} {d : D} {k : Bool} (r : R Z.K io h H) (q : DRel Z.K io H v d) (e : truOf d h = some k) : TruV Z.K v H k := by
  have hl := sizeLine_eq
  have gen : (listOf h d).map (fun l => !l.isEmpty) = some k → TruV Z.K v H k := fun e => by
    obtain ⟨l, e1, rfl⟩ := map_inv e
    obtain ⟨a, xs, rfl, hs, rx⟩ := listOf_rel r q e1
    have eq : (!l.isEmpty) = !xs.isEmpty := by
      cases rx <;> rfl
    rcases hs with hs | hs
    · exact .inl ⟨xs, hs, eq⟩
    · exact .inr (.inl ⟨xs, hs, eq⟩)
  cases d with
  | non => cases q; cases e; exact rfl
  | bl b => cases q; cases e; exact rfl
  | int b => cases q; cases e; exact rfl
  | str b =>
    cases q
    dsimp only [truOf] at e
    split at e
    · cases e; exact ⟨by omega, rfl⟩
    · cases e
  | _ => exact gen e
theorem s_mTru (h : tMT Z (mTru a) st H QT) : (tM Z a) st H fun x H' => ∃ k, TruV Z.K x H' k ∧ QT k H' := by
  obtain ⟨io, s, h0, hR, hE, p⟩ := h
  refine ⟨io, s, h0, hR, hE, (PostR.bind (rel1 := DRel Z.K) p).imp fun x H1 hx => ?_⟩
  obtain ⟨io1, h1, d1, t1, R1, r1, p1⟩ := hx
  split at p1
  · rename_i k e
    exact ⟨k, tru_rel R1 r1 e, p1.here R1 rfl⟩
  · exact p1.elim
theorem s_notT {t : MT} (h : tMT Z (mNotT t) st H QT) : tNot (tMT Z t) st H QT := by
  obtain ⟨io, s, h0, hR, hE, p⟩ := h
  refine ⟨io, s, h0, hR, hE, (PostR.bind (rel1 := fun _ _ (b c : Bool) => b = c) p).imp fun x H1 hx => ?_⟩
  obtain ⟨io1, h1, d1, t1, R1, r1, p1⟩ := hx
  subst r1
  exact p1.here R1 rfl
theorem s_andT {t u : MT} {r : List MT} (h : tMT Z (mAndT (t :: u :: r)) st H QT) : tAnd (tMT Z t) (tMT Z (mAndT (u :: r))) st H QT := by
  obtain ⟨io, s, h0, hR, hE, p⟩ := h
  refine ⟨io, s, h0, hR, hE, (PostR.bind (rel1 := fun _ _ (b c : Bool) => b = c) p).imp fun x H1 hx => ?_⟩
  obtain ⟨io1, h1, d1, t1, R1, r1, p1⟩ := hx
  subst r1
  cases x with
  | true => rw [if_pos rfl]; exact ⟨io1, s, h1, R1, hE.mono t1, p1⟩
  | false => rw [if_neg Bool.false_ne_true]; exact PostR.here (rel := fun _ _ (b c : Bool) => b = c) p1 R1 rfl
theorem s_orT {t u : MT} {r : List MT} (h : tMT Z (mOrT (t :: u :: r)) st H QT) : tOr (tMT Z t) (tMT Z (mOrT (u :: r))) st H QT := by
  obtain ⟨io, s, h0, hR, hE, p⟩ := h
  refine ⟨io, s, h0, hR, hE, (PostR.bind (rel1 := fun _ _ (b c : Bool) => b = c) p).imp fun x H1 hx => ?_⟩
  obtain ⟨io1, h1, d1, t1, R1, r1, p1⟩ := hx
  subst r1
  cases x with
  | true => rw [if_pos rfl]; exact PostR.here (rel := fun _ _ (b c : Bool) => b = c) p1 R1 rfl
  | false => rw [if_neg Bool.false_ne_true]; exact ⟨io1, s, h1, R1, hE.mono t1, p1⟩
end
end
end PyI
-- PyI1
/-! PyI1: reversed(text) -/
namespace PyI
noncomputable section
open PySem PySem.Spec PyProof.Rows L2 RT
theorem norev_str : typeLookup (.type "str") "__reversed__" = pure none := by rw [typeLookup_type, builtinLookup_eq_fast]; kernel_rfl
theorem get_str : typeLookup (.type "str") "__getitem__" = pure (some (.builtin "str.__getitem__")) := by rw [typeLookup_type, builtinLookup_eq_fast]; kernel_rfl
theorem sub_str_dict : isSubtype (.type "str") (.type "dict") = pure false := by rw [isSubtype_type]; kernel_rfl
def rsObj (v : Value) (i : Int) : Obj := { cls := .type "reversed", data := .fields #[v, rawInt i] }
/-- reversed(x), x a text, the next place i -/
def IsRs (h : Heap) (a : Addr) (v : Value) (i : Int) : Prop := ∃ o, h.get? a = some o ∧ o.cls = .type "reversed" ∧ o.data = .fields #[v, rawInt i]
theorem IsRs.at {h h' : Heap} {a : Addr} {v : Value} {i : Int} (x : IsRs h a v i) (e : ∀ o, h.get? a = some o → h'.get? a = some o) : IsRs h' a v i := let ⟨o, ho, r⟩ := x; ⟨o, e _ ho, r⟩
section
variable {prog : Program} {w : World} {A : Around} {E : Value → Shared → Prop} {s : Shared}
theorem IsRs.typeIs {a : Addr} {v : Value} {i : Int} (x : IsRs s.heap a v i) : s.TypeIs (.ref a) "reversed" := let ⟨o, ho, hc, _⟩ := x; ⟨o, ho, hc⟩
theorem code_reversed_str {x : Str} {t : Tok} {Q₁ : Value → Shared → Prop} (hfit : ¬ (x.length : Int) ≥ 2 ^ 63)
    (h : Q₁ (.ref s.heap.objs.size) { s with heap := s.heap.push (rsObj (.str x t) ((x.length : Int) - 1)), toks := s.toks + 1 + 1 }) :
    codeAny (model prog w) A (.call (.builtin "reversed.__new__") ⟨[.type "reversed", .str x t], []⟩) (wants Q₁ E) s := by
  have hT : s.TypeIs (.str x t) "str" := PySem.typeIs_str s x t
  refine codeAny_of_tree ?_
  show wpAny _ A.in1 (do checkBuiltinCall "reversed.__new__" ⟨[.type "reversed", .str x t], []⟩; again (.builtin "reversed.__new__" ⟨[.type "reversed", .str x t], []⟩)) _ _ s
  refine wpAny_bind (wpAny_of_eq (F.newCall_reversed_1 _) (wpAny_pure ⟨plainId_quiet F.plain_reversed_new _, codeAny_builtin F.entry_reversed_new ?_⟩))
  rw [Around.under_plainId F.plain_reversed_new _]
  unfold Builtin.«reversed.__new__»
  refine wpAny_bind (wpAny_of_eq (newClass_reversed _) ?_)
  try dsimp only
  refine wpAny_bind (wpAny_of_eq (a := ()) (by first | rfl | kernel_rfl) ?_)
  try dsimp only
  refine wpAny_bind (wpAny_of_eq (a := ()) (by first | rfl | kernel_rfl) ?_)
  try dsimp only
  refine wpAny_bind (wpAny_specialOf hT norev_str ?_)
  try dsimp only
  refine wpAny_bind ?_
  wp_delta
  refine wpAny_bind (wpAny_isInstance (T := "str") (U := "dict") (b := false) hT sub_str_dict ?_)
  try dsimp only
  try rw [if_neg Bool.false_ne_true]
  try dsimp only
  refine wpAny_bind (wpAny_specialOf hT get_str ?_)
  try dsimp only
  try rw [if_pos (by decide +kernel)]
  refine wpAny_pure ?_
  try dsimp only
  try rw [if_neg (by decide)]
  try dsimp only
  refine wpAny_bind (PySem.P.len_str hfit ?_)
  refine wpAny_bind (wpAny_of_eq (a := some ((x.length : Nat) : Int)) rfl ?_)
  try dsimp only
  refine wpAny_bind ?_
  show wpAny _ _ (newObj (.type "reversed") (.fields #[.str x t, rawInt ((x.length : Int) - 1)])) _ _ _
  refine wpAny_newObj_type ?_
  exact wpAny_pure h
theorem call_reversed_str {x : Str} {t : Tok} {Q : Value → Shared → Prop} (hfit : ¬ (x.length : Int) ≥ 2 ^ 63)
    (h : Q (.ref s.heap.objs.size) { s with heap := s.heap.push (rsObj (.str x t) ((x.length : Int) - 1)), toks := s.toks + 1 + 1 }) : wpAny (model prog w) A (call (.type "reversed") [.str x t]) Q E s := by
  refine callType_codes (Q₁ := fun obj s₁ => s₁.TypeIs obj "reversed" ∧ Q obj s₁) called_rt (F.typeCall_reversed_1 _) F.entry_object_init
    (code_reversed_str (A := A.in1) hfit ⟨⟨_, Heap.get?_push_size _ rfl, rfl⟩, h⟩) fun obj s₁ h₁ => ?_
  exact ⟨h₁.1, F.args_object_init_2 obj _, object_init_meets called_rt.init.lookup called_rt.made (by decide) prog w A.in1 _ s₁ ⟨h₁.1, rfl, h₁.2⟩⟩
theorem next_rs_item {it : Addr} {x : Str} {t : Tok} {i c : Nat} {Q : Option Value → Shared → Prop} (hit : IsRs s.heap it (.str x t) (i : Int)) (hx : x.cps[i]? = some c) (hsz : x.length ≤ sizeLine)
    (hQ : ∀ h', IsRs h' it (.str x t) ((i : Int) - 1) → Heap.SameBut it s.heap h' → Q (some (.str ⟨#[c]⟩ (s.toks + 1))) { s with heap := h', toks := s.toks + 1 + 1 }) : wpAny (model prog w) A (pyNext (.ref it)) Q E s := by
  obtain ⟨o, ho, hc, hd⟩ := id hit
  have hi : i < x.cps.size := (Array.getElem?_eq_some_iff.mp hx).1
  have hi' : i < x.length := hi
  have hT : s.TypeIs (.str x t) "str" := PySem.typeIs_str s x t
  rw [sizeLine_eq] at hsz
  unfold pyNext
  refine wpAny_bind (wpAny_attempt (wpAny_callSpecial?_slot (name := Str.ofString "__next__") hit.typeIs slot_rt_next
    (wpAny_call_entry slot_rt_next hit.typeIs entry_rt_next ?_ (args_rt_next _))))
  unfold Builtin.«reversed.__next__»
  refine wpAny_bind (wpAny_of_eq (a := (Value.ref it, [])) rfl ?_)
  try dsimp only
  refine wpAny_bind (wpAny_field ho hd (x := .str x t) rfl ?_)
  try dsimp only
  refine wpAny_bind (wpAny_field ho hd (x := rawInt (i : Int)) rfl ?_)
  show wpAny _ _ (if (i : Int) < 0 then _ else _) _ _ s
  rw [if_neg (by omega)]
  try dsimp only
  refine wpAny_bind (wpAny_specialOf hT get_str ?_)
  try dsimp only
  try rw [if_neg (by decide)]
  try dsimp only
  refine wpAny_bind (wpAny_mkInt ?_)
  refine wpAny_bind (wpAny_attempt ?_)
  have fin : seqIndex? (i : Int) x.length = some i := seqIndex_of (by omega) (by omega)
  refine PySem.P.getItem_str (s := { s with toks := s.toks + 1 }) (c := c) (by simp only [Bool.or_eq_false_iff, decide_eq_false_iff_not]; omega) (by rw [fin]; exact hx) ?_
  try dsimp only
  refine wpAny_bind (wpAny_field (s := { s with toks := s.toks + 1 + 1 }) ho hd (x := rawInt (i : Int)) rfl ?_)
  try dsimp only
  refine wpAny_bind (wpAny_setField (s := { s with toks := s.toks + 1 + 1 }) ho hd (by simp) ?_)
  first
  | refine wpAny_pure ⟨_, rfl, wpAny_pure (hQ _ ?_ (Heap.SameBut.update ..))⟩
  | refine wpAny_bind (wpAny_pure (wpAny_pure ⟨_, rfl, wpAny_pure (hQ _ ?_ (Heap.SameBut.update ..))⟩))
  exact ⟨_, Heap.get?_update_self _ ho (Obj.isFreed_of_fields (Obj.data_mapFields hd _)), (Obj.cls_mapFields ..).trans hc, by
    rw [Obj.data_mapFields hd]; simp⟩
theorem next_rs_end {it : Addr} {v : Value} {Q : Option Value → Shared → Prop} (hh : A.handled = none) (hit : IsRs s.heap it v (-1))
    (hQ : ∀ h', Heap.ExtBut it s.heap h' → Q none { s with heap := h' }) : wpAny (model prog w) A (pyNext (.ref it)) Q E s := by
  obtain ⟨o, ho, hc, hd⟩ := id hit
  unfold pyNext
  refine wpAny_bind (wpAny_attempt (wpAny_callSpecial?_slot (name := Str.ofString "__next__") hit.typeIs slot_rt_next
    (wpAny_call_entry slot_rt_next hit.typeIs entry_rt_next ?_ (args_rt_next _))))
  unfold Builtin.«reversed.__next__»
  refine wpAny_bind (wpAny_of_eq (a := (Value.ref it, [])) rfl ?_)
  try dsimp only
  refine wpAny_bind (wpAny_field ho hd (x := v) rfl ?_)
  try dsimp only
  refine wpAny_bind (wpAny_field ho hd (x := rawInt (-1)) rfl ?_)
  show wpAny _ _ (if (-1 : Int) < 0 then _ else _) _ _ s
  rw [if_pos (by decide)]
  try dsimp only
  refine wpAny_bind (wpAny_rule ?_)
  refine wpAny_bind ?_
  wp_delta
  refine wpAny_bind (wpAny_setField ho hd (by simp) ?_)
  have ho2 := Heap.get?_update_self (Obj.mapFields (·.setIfInBounds 1 (rawInt (-1)))) ho (Obj.isFreed_of_fields (Obj.data_mapFields hd _))
  refine wpAny_setField (s := { s with heap := s.heap.update it (Obj.mapFields (·.setIfInBounds 1 (rawInt (-1)))) }) ho2 (Obj.data_mapFields hd _) (by simp) ?_
  try dsimp only
  first
  | show wpAny _ _ (newExc (.type "StopIteration") [] >>= _) _ _ _
  | (refine wpAny_bind ?_; show wpAny _ _ (newExc (.type "StopIteration") [] >>= _) _ _ _)
  | (refine wpAny_bind ?_; wp_delta; show wpAny _ _ (newExc (.type "StopIteration") [] >>= _) _ _ _)
  refine wpAny_bind ?_
  simp only [newExc, newTuple]
  refine wpAny_bind (wpAny_newObj_type ?_ (by size_fits))
  refine wpAny_bind (m := firstArgMember _ _) (wpAny_of_eq (a := Value.none) (by first | rfl | (simp only [firstArgMember]; rfl)) ?_)
  refine wpAny_newObj_type ?_ (by size_fits)
  simp only [raiseNew]
  refine wpAny_bind (wpAny_handled ?_)
  first | rw [show A.in1.handled = none from hh] | rw [hh]
  refine wpAny_bind (wpAny_pure (wpAny_throw ?_))
  refine wpAny_bind (wpAny_isInstance (T := "StopIteration") (b := true) ⟨_, Heap.get?_push_size _ rfl, rfl⟩ isSubtype_stop ?_)
  refine wpAny_pure (hQ _ ?_)
  refine ((?_ : Heap.ExtBut it s.heap _).push _).push _
  exact fun b ob hb e => (Heap.get?_update_other _ _ (Ne.symm hb)).trans ((Heap.get?_update_other _ _ (Ne.symm hb)).trans e)
theorem iter_rs {it : Addr} {v : Value} {i : Int} {Q : Value → Shared → Prop} (hit : IsRs s.heap it v i) (h : Q (.ref it) s) : wpAny (model prog w) A (pyIter (.ref it)) Q E s := by
  refine wpAny_pyIter_slot hit.typeIs slot_rt_iter (wpAny_call_entry slot_rt_iter hit.typeIs entry_rt_iter ?_ (args_rt_iter _))
  show wpAny _ _ (ret (.ref it)) _ _ s
  exact wpAny_pure ⟨_, rfl, "reversed", _, hit.typeIs, slot_rt_next.lookup, h⟩
end
def Itvs (x : Str) : It := ⟨fun i _ => i < x.cps.size, fun i H v H' => H' = H ∧ ∃ c, x.cps[x.cps.size - 1 - i]? = some c ∧ v = .str ⟨#[c]⟩, fun i _ => x.cps.size ≤ i⟩
theorem turn_rs {P : Program} {w : World} {K : PySem.W.Frag} {tg : Expr} (it : Addr) (x : Str) (t : Tok) (hz : x.length ≤ 16777216) : Turn P w K tg (Itvs x) [it] it (fun i h => i ≤ x.cps.size ∧ IsRs h it (.str x t) ((x.cps.size : Int) - 1 - (i : Nat))) where
  mem := by simp
  obj := fun i h st b hb => by
    have e : b = it := by simpa using hb
    subst e
    obtain ⟨_, o, e, c, d⟩ := st
    exact ⟨o, e, fun v z => by rw [d] at z; cases z⟩
  keep := fun i h h' st k => ⟨st.1, st.2.at fun o e => k it (by simp) o e⟩
  item := by
    intro X hP hw hK hc i pins s σ H E I hf st hg
    subst hP hw hK
    have hin : i < x.cps.size := hg
    obtain ⟨f0, f1, f2, f3, f4, f5⟩ := hf it (by simp)
    obtain ⟨_, hit⟩ := st
    have e1 : (x.cps.size : Int) - 1 - ((i : Nat) : Int) = ((x.cps.size - 1 - i : Nat) : Int) := by omega
    rw [e1] at hit
    have hx : x.cps[x.cps.size - 1 - i]? = some (x.cps[x.cps.size - 1 - i]'(by omega)) := Array.getElem?_eq_getElem _
    have hz' : x.length ≤ sizeLine := by rw [sizeLine_eq]; exact hz
    refine next_rs_item hit hx hz' fun h' st' sb => ?_
    have e2 : ((x.cps.size - 1 - i : Nat) : Int) - 1 = (x.cps.size : Int) - 1 - ((i + 1 : Nat) : Int) := by omega
    rw [e2] at st'
    have I1 : Inv X pins σ H { s with heap := h', toks := s.toks + 1 + 1 } := I.turned (t' := s.toks + 1 + 1) (fun b o hb e => (sb.2 b hb).trans e) f0 f1 f3 f4 f5
    obtain ⟨o, e, c, d⟩ := id st'
    exact ⟨_, rfl, go_of (s := { s with heap := h', toks := s.toks + 1 + 1 }) e c d (by decide) ⟨.str ⟨#[_]⟩, H, I1, ⟨_, rfl⟩, ⟨rfl, _, hx, rfl⟩, ⟨hin, st'⟩, fun b hb => (hf b hb).1⟩⟩
  done := by
    intro X hP hw hK hc i pins s σ H E I hf st hg
    subst hP hw hK
    obtain ⟨f0, f1, f2, f3, f4, f5⟩ := hf it (by simp)
    obtain ⟨hin, hit⟩ := st
    have hge : x.cps.size ≤ i := hg
    have e1 : (x.cps.size : Int) - 1 - ((i : Nat) : Int) = -1 := by omega
    rw [e1] at hit
    exact next_rs_end (I.ok.hd hc) hit fun h' eb => ⟨rfl, I.turned (t' := s.toks) (fun b o hb e => eb b o hb e) f0 f1 f3 f4 f5⟩
  self := fun A i s Q E st h => iter_rs st.2 h
/-- reversed(x), x a list, a tuple or a text -/
def iRevT (K : PySem.W.Frag) (te : TE) : TI := fun σ H R => te σ H fun v H1 =>
  (∃ (a : Addr) (xs : List V), v = .ref a ∧ ((SqL K H1 a xs ∧ R (Itv K a xs.length) H1) ∨ (SqT K H1 a xs ∧ R (ItvT K a xs.length) H1))) ∨ ∃ z, v = .str z ∧ z.length ≤ 16777216 ∧ R (Itvs z) H1
section
variable {X : Cx} {tg : Expr}
theorem pi_revT {e : Expr} {te : TE} {p pos : Pos} (hg : Gl X "reversed") (hm : X.mg "reversed" = none) (he : PE X e te) (hs : starEach [e] X.env = (false, eval e X.env) :: starEach [] X.env := by rfl) : PI X tg (.Call (.Name "reversed" p) [e] [] pos) (iRevT X.K te) := by
  refine ⟨fun pins s σ H R I h => ?_⟩
  refine Call_ (ld_blt I hg hm PyProof.Rows.boot_reversed (PyProof.Rows.callWith_type1 (args_cons (thn (he.run pins s σ H _ I h) fun u s1 ⟨v, H1, I1, r1, q1⟩ => args_nil ?_) hs) hs rfl))
  rcases q1 with ⟨a, xs, ev, q⟩ | ⟨z, ev, hz, q⟩
  · subst ev
    obtain rfl : u = Value.ref a := r1
    rcases q with ⟨hq, q⟩ | ⟨hq, q⟩
    · obtain ⟨its, rv, p', hz⟩ := I1.list hq
      have hl := rv.length
      have e1 : ((its.toArray.size : Nat) : Int) - 1 = (xs.length : Int) - 1 - ((0 : Nat) : Int) := by simp only [List.size_toArray]; omega
      refine call_reversed_list p'.isList (wpAny_pyIter_revIter (l := a) (i := ((its.toArray.size : Nat) : Int) - 1) ⟨_, Heap.get?_push_size _ rfl, rfl, rfl⟩ ?_)
      refine pi_one (tk := s1.toks) I1 _ (turn_rev a _ xs.length) ⟨Nat.zero_le _, ?_⟩ q
      rw [← e1]
      exact ⟨_, Heap.get?_push_size _ rfl, rfl, rfl⟩
    · obtain ⟨its, rv, p', hz⟩ := I1.tuple hq
      have hl := rv.length
      have hn := line63
      have e1 : ((its.toArray.size : Nat) : Int) - 1 = (xs.length : Int) - 1 - ((0 : Nat) : Int) := by simp only [List.size_toArray]; omega
      refine call_reversed_tup p' (fun A E Q k => len_tuple p' (by simp only [List.size_toArray] <;> omega) k) (iter_rt (t := a) (i := ((its.toArray.size : Nat) : Int) - 1) ⟨_, Heap.get?_push_size _ rfl, rfl, rfl⟩ ?_)
      refine pi_one (tk := s1.toks + 1 + 1) I1 _ (turn_rt a _ xs.length) ⟨Nat.zero_le _, ?_⟩ q
      rw [← e1]
      exact ⟨_, Heap.get?_push_size _ rfl, rfl, rfl⟩
  · subst ev
    obtain ⟨t, rfl⟩ := r1
    refine call_reversed_str (by omega) (iter_rs (v := .str z t) (i := (z.length : Int) - 1) ⟨_, Heap.get?_push_size _ rfl, rfl, rfl⟩ ?_)
    refine pi_one (tk := s1.toks + 1 + 1) I1 _ (turn_rs _ z t hz) ⟨Nat.zero_le _, ?_⟩ q
    have e1 : (z.length : Int) - 1 = (z.cps.size : Int) - 1 - ((0 : Nat) : Int) := by show (z.cps.size : Int) - 1 = _; omega
    rw [← e1]
    exact ⟨_, Heap.get?_push_size _ rfl, rfl, rfl⟩
end
end
end PyI
-- PyH1
/-! PyH1: zip of two of lists, tuples, texts, in any mix -/
namespace PyI
open PySem PySem.Spec PyProof.Rows L2
structure SrcZ (P : Program) (w : World) (K : PySem.W.Frag) (it : Addr) (n : Nat) (PV : Nat → Hp → V → Prop) (G : Hp → Prop) (I0 : Nat → Heap → Prop) (es : List Addr) : Prop where
  keep : ∀ i h h', I0 i h → (∀ o, h.get? it = some o → h'.get? it = some o) → I0 i h'
  live : ∀ i h, I0 i h → ∃ o, h.get? it = some o ∧ ∀ v, o.data ≠ .cell v
  draw : ∀ (X : Cx), X.prog = P → X.w = w → X.K = K → X.calm = true → ∀ (pins : List (Addr × Obj)) (st : L2.St) (H : Hp) (s : Shared), Inv X pins st H s → G H →
    ∃ (fp : List Addr) (Pv : Nat → Value → Prop) (Sv : Nat → Heap → Prop), Draws P w X.A.in1 it fp n Pv Sv ∧ it ∈ fp ∧ (∀ e ∈ es, e ∉ fp) ∧ (∀ i, I0 i s.heap → Sv i s.heap) ∧ (∀ i h, Sv i h → I0 i h) ∧ ∀ i u, Pv i u → ∃ x, RelV x u ∧ PV i H x
/-- pairs (x, y), x told by P, y by Q, while G holds -/
def IteZ (n : Nat) (P Q : Nat → Hp → V → Prop) (G : Hp → Prop) : It :=
  ⟨fun i H => i < n ∧ G H, fun i H v H' => ∃ T x y, v = .ref T ∧ H T = none ∧ H' = upd H T (.tup [x, y]) ∧ P i H x ∧ Q i H y, fun i H => n ≤ i ∧ G H⟩
theorem turn_zipZ {P : Program} {w : World} {K : PySem.W.Frag} {elts : List Expr} {kk : Nat} {tpos : Pos} {n1 n2 : Nat} {PV1 PV2 : Nat → Hp → V → Prop} {G1 G2 : Hp → Prop} {J1 J2 : Nat → Heap → Prop} {z TI TO i1 i2 : Addr}
    (a1 : TI ≠ z) (a2 : TO ≠ z) (a3 : TI ≠ TO) (a4 : TI ≠ i1) (a5 : TI ≠ i2) (S1 : SrcZ P w K i1 n1 PV1 G1 J1 [z, TO, i2]) (S2 : SrcZ P w K i2 n2 PV2 G2 J2 [z, TO, i1]) :
    Turn P w K (.Tuple elts kk tpos) (IteZ (min n1 n2) PV1 PV2 fun H => G1 H ∧ G2 H) [z, TI, TO, i1, i2] z (fun i h => IsZip h z TI TO .none ∧ IsTupOf2 h TI (.ref i1) (.ref i2) ∧ (∃ x y, IsTupOf2 h TO x y) ∧ J1 i h ∧ J2 i h ∧ i ≤ min n1 n2) where
  mem := by simp
  obj := fun i h st c hc => by
    obtain ⟨hz, hTI, ⟨x, y, hTO⟩, h1, h2, _⟩ := st
    have e' : c = z ∨ c = TI ∨ c = TO ∨ c = i1 ∨ c = i2 := by simpa using hc
    rcases e' with q | q | q | q | q
    · rw [q]; exact ⟨_, hz, fun v q => nomatch q⟩
    · rw [q]; exact ⟨_, hTI, fun v q => nomatch q⟩
    · rw [q]; exact ⟨_, hTO, fun v q => nomatch q⟩
    · rw [q]; exact S1.live _ _ h1
    · rw [q]; exact S2.live _ _ h2
  keep := fun i h h' st k => by
    obtain ⟨hz, hTI, ⟨x, y, hTO⟩, h1, h2, hl⟩ := st
    exact ⟨k z (by simp) _ hz, k TI (by simp) _ hTI, ⟨x, y, k TO (by simp) _ hTO⟩, S1.keep _ _ _ h1 fun o q => k i1 (by simp) o q, S2.keep _ _ _ h2 fun o q => k i2 (by simp) o q, hl⟩
  item := by
    intro X hP hw hK hc i pins s st H E I hf tn hg
    obtain ⟨hz, hTI, ⟨x0, y0, hTO⟩, h1, h2, hle⟩ := tn
    obtain ⟨hlt, g1, g2⟩ := hg
    obtain ⟨fp1, Pv1, Sv1, D1, m1, es1, q1, q2, q3⟩ := S1.draw X hP hw hK hc pins st H s I g1
    obtain ⟨fp2, Pv2, Sv2, D2, m2, es2, r1, r2, r3⟩ := S2.draw X hP hw hK hc pins st H s I g2
    subst hP hw hK
    have Z : ZipSep2 z TI TO i1 i2 fp1 fp2 := ⟨a1, a2, a3, a4, m1, es1 z (by simp), es1 TO (by simp), a5, m2, es2 z (by simp), es2 TO (by simp), es2 i1 (by simp), es1 i2 (by simp)⟩
    have hzl : z < s.heap.objs.size := Heap.lt_size hz
    have l1 : i1 < s.heap.objs.size := by obtain ⟨_, q, _⟩ := S1.live _ _ h1; exact Heap.lt_size q
    have l2 : i2 < s.heap.objs.size := by obtain ⟨_, q, _⟩ := S2.live _ _ h2; exact Heap.lt_size q
    refine wpAny_pyNext_zipD2_item Z D1 D2 hz hTI hTO (q1 i h1) (r1 i h2) (by omega) (by omega) fun u1 u2 h' tk p1 p2 z' TO' s1' s2' hT hsz hk => ?_
    obtain ⟨x, rx, px⟩ := q3 i u1 p1
    obtain ⟨y, ry, py⟩ := r3 i u2 p2
    refine ⟨_, rfl, wpAny_letOwnedTupleGo_zip (s := { s with heap := h', toks := tk }) z' fun h'' z'' sb => ?_⟩
    have hT2 : h''.get? s.heap.objs.size = some { cls := .type "tuple", data := .seq #[u1, u2] } := (sb.2 _ (Nat.ne_of_gt hzl)).trans hT
    have new : ObjOk X.prog X.w (upd H s.heap.objs.size (.tup [x, y])) h'' s.heap.objs.size (.tup [x, y]) :=
      ⟨by show 2 ≤ sizeLine; decide, [u1, u2], .cons rx (.cons ry .nil), ⟨_, hT2, rfl, _, rfl⟩⟩
    have I1 : Inv X pins st (upd H s.heap.objs.size (.tup [x, y])) { s with heap := h'', toks := tk } :=
      I.turnedNew (ch := [z, TI, TO, i1, i2]) (fun c o hb q => (sb.2 c (fun q' => hb (by simp [q']))).trans (hk c o (fun q' => hb (by simp [q'])) (fun q' => hb (by simp [q'])) (fun q' => hb (by simp [q'])) (fun q' => hb (by simp [q'])) q)) hf (Nat.le_refl _) new
    refine ⟨.ref s.heap.objs.size, _, I1, rfl, ⟨_, x, y, rfl, I.hok.fresh (Nat.le_refl _), rfl, px, py⟩, ⟨z'', ?_, ⟨u1, u2, ?_⟩, ?_, ?_, by omega⟩, fun c hcm => ?_⟩
    · exact (sb.2 _ a1).trans (hk _ _ a1 a3 a4 a5 hTI)
    · exact (sb.2 _ a2).trans TO'
    · exact S1.keep _ _ _ (q2 _ _ s1') fun o q => (sb.2 _ (Ne.symm Z.zi1)).trans q
    · exact S2.keep _ _ _ (r2 _ _ s2') fun o q => (sb.2 _ (Ne.symm Z.zi2)).trans q
    · have hlt : c < s.heap.objs.size := by
        have e' : c = z ∨ c = TI ∨ c = TO ∨ c = i1 ∨ c = i2 := by simpa using hcm
        rcases e' with q | q | q | q | q
        · rw [q]; exact hzl
        · rw [q]; exact Heap.lt_size hTI
        · rw [q]; exact Heap.lt_size hTO
        · rw [q]; exact l1
        · rw [q]; exact l2
      rw [upd_ne (Nat.ne_of_lt hlt)]
      exact (hf c hcm).1
  done := by
    intro X hP hw hK hc i pins s st H E I hf tn hg
    obtain ⟨hz, hTI, ⟨x0, y0, hTO⟩, h1, h2, hle⟩ := tn
    obtain ⟨hge, g1, g2⟩ := hg
    obtain ⟨fp1, Pv1, Sv1, D1, m1, es1, q1, q2, q3⟩ := S1.draw X hP hw hK hc pins st H s I g1
    obtain ⟨fp2, Pv2, Sv2, D2, m2, es2, r1, r2, r3⟩ := S2.draw X hP hw hK hc pins st H s I g2
    subst hP hw hK
    have Z : ZipSep2 z TI TO i1 i2 fp1 fp2 := ⟨a1, a2, a3, a4, m1, es1 z (by simp), es1 TO (by simp), a5, m2, es2 z (by simp), es2 TO (by simp), es2 i1 (by simp), es1 i2 (by simp)⟩
    exact wpAny_pyNext_zipD2_end Z D1 D2 hz hTI hTO (q1 i h1) (r1 i h2) (by omega) (by omega) (by omega) fun h' tk hk => ⟨rfl, I.turnedL (t' := tk) (ch := [z, TI, TO, i1, i2]) (fun c o hb q =>
      hk c o (fun q' => hb (by simp [q'])) (fun q' => hb (by simp [q'])) (fun q' => hb (by simp [q'])) (fun q' => hb (by simp [q'])) q) hf⟩
  self := fun A i s Q E st h => wpAny_pyIter_zip st.1 h
/-- a source of zip: what stands for it, how it begins -/
structure ZSrc (X : Cx) (H : Hp) (s : Shared) (u : Value) (n : Nat) (PV : Nat → Hp → V → Prop) (G : Hp → Prop) : Prop where
  go : ∃ (o : Obj) (Hs : Heap → Prop) (J : Addr → Nat → Heap → Prop), Begins u o Hs ∧ Hs s.heap ∧ G H ∧ ∀ (it : Addr) (es : List Addr), s.heap.objs.size ≤ it → (∀ e ∈ es, s.heap.objs.size ≤ e ∧ e ≠ it) →
    SrcZ X.prog X.w X.K it n PV G (J it) es ∧ ∀ h' : Heap, h'.get? it = some o → J it 0 h'
section
variable {X : Cx} {pins : List (Addr × Obj)} {st : L2.St} {H : Hp} {s : Shared} {a : Addr} {xs : List V}
theorem zsrc_tup (I : Inv X pins st H s) (h : SqT X.K H a xs) : ZSrc X H s (.ref a) xs.length (fun i _ x => xs[i]? = some x) (fun H => SqT X.K H a xs) := by
  obtain ⟨its, rv, ht, hz⟩ := I.tuple h
  have hal : a < s.heap.objs.size := by obtain ⟨o, ho, _⟩ := ht; exact Heap.lt_size ho
  refine ⟨_, _, fun it i h => h.IsTupleIter it a i, begins_tuple a its.toArray, ht, h, fun it es h1 h2 => ⟨⟨fun i h h' z k => let ⟨o, ho, r⟩ := z; ⟨o, k o ho, r⟩, fun i h z => let ⟨o, ho, hc, hd⟩ := z; ⟨o, ho, fun v q => by rw [hd] at q; cases q⟩, ?_⟩, fun h' e => ⟨_, e, rfl, rfl⟩⟩⟩
  intro X' hP hw hK hc pins st H s I g
  obtain ⟨its, rv, ht, hz⟩ := I.tuple (by rw [hK]; exact g)
  have hl := rv.length
  refine ⟨[it, a], (fun i v => its.toArray[i]? = some v), (fun i h => h.IsTupleIter it a i ∧ h.IsTuple a its.toArray), (by have D := Draws.tuple (prog := X'.prog) (w := X'.w) (A := X'.A.in1) (I.ok.hd hc) it a (Nat.ne_of_lt (Nat.lt_of_lt_of_le hal h1)) its.toArray; rw [List.size_toArray, ← hl] at D; rwa [hP, hw] at D), by simp, fun e he hm => by
    rcases List.mem_cons.mp hm with q | q
    · exact (h2 e he).2 q
    · exact absurd (List.mem_singleton.mp q) (Nat.ne_of_gt (Nat.lt_of_lt_of_le hal (h2 e he).1)), fun i z => ⟨z, ht⟩, fun i h z => z.1, fun i u hu => ?_⟩
  have hu : its[i]? = some u := by simpa using hu
  have hi : i < xs.length := by rw [hl]; exact (List.getElem?_eq_some_iff.mp hu).1
  obtain ⟨u2, e2, r2⟩ := rv.get (List.getElem?_eq_getElem hi)
  rw [hu] at e2; cases e2
  exact ⟨_, r2, List.getElem?_eq_getElem hi⟩
theorem zsrc_lst (I : Inv X pins st H s) (h : SqL X.K H a xs) : ZSrc X H s (.ref a) xs.length (fun i H x => ∀ ys, SqL X.K H a ys → ys[i]? = some x) (fun H => ∃ ys : List V, SqL X.K H a ys ∧ ys.length = xs.length) := by
  obtain ⟨its, rv, ht, hz⟩ := I.list h
  have hal : a < s.heap.objs.size := by obtain ⟨o, n, ho, _⟩ := ht; exact Heap.lt_size ho
  refine ⟨_, _, fun it i h => h.IsListIter it a i, begins_list a its.toArray, ht.isList, ⟨xs, h, rfl⟩, fun it es h1 h2 => ⟨⟨fun i h h' z k => let ⟨o, ho, r⟩ := z; ⟨o, k o ho, r⟩, fun i h z => let ⟨o, ho, hc, hd⟩ := z; ⟨o, ho, fun v q => by rw [hd] at q; cases q⟩, ?_⟩, fun h' e => ⟨_, e, rfl, rfl⟩⟩⟩
  intro X' hP hw hK hc pins st H s I g
  obtain ⟨ys, g, hn⟩ := g
  have g' : SqL X'.K H a ys := by rw [hK]; exact g
  obtain ⟨its, rv, ht, hz⟩ := I.list g'
  have hl := rv.length
  refine ⟨[it, a], (fun i v => its.toArray[i]? = some v), (fun i h => h.IsListIter it a i ∧ h.IsList a its.toArray), (by have D := Draws.list (prog := X'.prog) (w := X'.w) (A := X'.A.in1) (I.ok.hd hc) it a (Nat.ne_of_lt (Nat.lt_of_lt_of_le hal h1)) its.toArray; rw [List.size_toArray, ← hl, hn] at D; rwa [hP, hw] at D), by simp, fun e he hm => by
    rcases List.mem_cons.mp hm with q | q
    · exact (h2 e he).2 q
    · exact absurd (List.mem_singleton.mp q) (Nat.ne_of_gt (Nat.lt_of_lt_of_le hal (h2 e he).1)), fun i z => ⟨z, ht.isList⟩, fun i h z => z.1, fun i u hu => ?_⟩
  have hu : its[i]? = some u := by simpa using hu
  have hi : i < ys.length := by rw [hl]; exact (List.getElem?_eq_some_iff.mp hu).1
  obtain ⟨u2, e2, r2⟩ := rv.get (List.getElem?_eq_getElem hi)
  rw [hu] at e2; cases e2
  exact ⟨_, r2, fun ys' h' => by rw [I.list_inj (show SqL X'.K H a ys' by rw [hK]; exact h') g']; exact List.getElem?_eq_getElem hi⟩
theorem zsrc_str {x : Str} {t : Tok} : ZSrc X H s (.str x t) x.cps.size (fun i _ v => ∃ c, x.cps[i]? = some c ∧ v = .str ⟨#[c]⟩) (fun _ => True) := by
  refine ⟨_, _, fun it i h => h.IsStrIter it (strIterType x) x t i, begins_text x t, trivial, trivial, fun it es h1 h2 => ⟨⟨fun i h h' z k => let ⟨o, ho, r⟩ := z; ⟨o, k o ho, r⟩, fun i h z => let ⟨o, ho, hc, hd⟩ := z; ⟨o, ho, fun v q => by rw [hd] at q; cases q⟩, ?_⟩, fun h' e => ⟨_, e, rfl, rfl⟩⟩⟩
  intro X' hP hw hK hc pins st H s I g
  refine ⟨[it], _, _, (by have D := Draws.text (prog := X'.prog) (w := X'.w) (A := X'.A.in1) (I.ok.hd hc) it x t; rwa [hP, hw] at D), by simp, fun e he hm => (h2 e he).2 (List.mem_singleton.mp hm), fun i z => z, fun i h z => z, fun i u hu => ?_⟩
  obtain ⟨c, u', hc', rfl⟩ := hu
  exact ⟨.str ⟨#[c]⟩, ⟨_, rfl⟩, c, hc', rfl⟩
end
/-- a value that zip may walk -/
def ZV (K : PySem.W.Frag) (H : Hp) (x : V) (n : Nat) (PV : Nat → Hp → V → Prop) (G : Hp → Prop) : Prop :=
  (∃ a xs, x = .ref a ∧ SqT K H a xs ∧ n = xs.length ∧ PV = (fun i _ x => xs[i]? = some x) ∧ G = fun H => SqT K H a xs) ∨
  (∃ a xs, x = .ref a ∧ SqL K H a xs ∧ n = xs.length ∧ PV = (fun i H x => ∀ ys, SqL K H a ys → ys[i]? = some x) ∧ G = fun H => ∃ ys : List V, SqL K H a ys ∧ ys.length = xs.length) ∨
  ∃ y : Str, x = .str y ∧ n = y.cps.size ∧ PV = (fun i _ v => ∃ c, y.cps[i]? = some c ∧ v = .str ⟨#[c]⟩) ∧ G = fun _ => True
theorem ZV.src {X : Cx} {pins : List (Addr × Obj)} {st : L2.St} {H : Hp} {s : Shared} {x : V} {u : Value} {n : Nat} {PV : Nat → Hp → V → Prop} {G : Hp → Prop} (I : Inv X pins st H s) (r : RelV x u) (h : ZV X.K H x n PV G) : ZSrc X H s u n PV G := by
  rcases h with ⟨a, xs, rfl, h, rfl, rfl, rfl⟩ | ⟨a, xs, rfl, h, rfl, rfl, rfl⟩ | ⟨y, rfl, rfl, rfl, rfl⟩
  · cases r; exact zsrc_tup I h
  · cases r; exact zsrc_lst I h
  · obtain ⟨t, rfl⟩ := r; exact zsrc_str
def iZipG (K : PySem.W.Frag) (ta : TA) : TI := fun st H R' => ta st H fun vs H1 => ∃ x y n1 PV1 G1 n2 PV2 G2, vs = [x, y] ∧ ZV K H1 x n1 PV1 G1 ∧ ZV K H1 y n2 PV2 G2 ∧ R' (IteZ (min n1 n2) PV1 PV2 fun H => G1 H ∧ G2 H) H1
theorem pi_zipG {X : Cx} {e e2 : Expr} {ta : TA} {p pos tpos : Pos} {elts : List Expr} {kk : Nat} (hg : Gl X "zip") (hm : X.mg "zip" = none) (ha : PA X [e, e2] ta)
    (hs : starEach [e, e2] X.env = (false, eval e X.env) :: starEach [e2] X.env) (hpl : (backTo pos (starEach [e2] X.env)).any (·.1) = false) :
    PI X (.Tuple elts kk tpos) (.Call (.Name "zip" p) [e, e2] [] pos) (iZipG X.K ta) := by
  refine ⟨fun pins s σ H R' I h => ?_⟩
  refine Call_ (ld_blt I hg hm PyProof.Rows.boot_zip (PyProof.Rows.callWith_type1 (thn (ha.run pos pins s σ H _ I h) fun us s1 ⟨vs, H1, I1, r1, q1⟩ => ?_) hs hpl))
  obtain ⟨x, y, n1, PV1, G1, n2, PV2, G2, rfl, z1, z2, q⟩ := q1
  obtain ⟨u1, u2, rfl, rx, ry⟩ := Vals.two r1
  obtain ⟨o1, Hs1, J1, B1, b1, g1, S1⟩ := (z1.src I1 rx).go
  obtain ⟨o2, Hs2, J2, B2, b2, g2, S2⟩ := (z2.src I1 ry).go
  have fresh5 : ∀ c, c ∈ [s1.heap.objs.size + 4, s1.heap.objs.size + 2, s1.heap.objs.size + 3, s1.heap.objs.size, s1.heap.objs.size + 1] → FpOk X pins H1 c := fun c hcm => by
    have hle : s1.heap.objs.size ≤ c := by
      simp at hcm
      omega
    exact I1.fpOk hle (I1.hok.fresh hle)
  refine zip_begins2 B1 B2 b1 b2 fun h' hz hTI hTO h1 h2 hsz hk => wpAny_pyIter_zip hz ?_
  have I2 : Inv X pins σ H1 { s1 with heap := h' } := I1.kept (t' := s1.toks) hk
  obtain ⟨T1, t1⟩ := S1 s1.heap.objs.size [s1.heap.objs.size + 4, s1.heap.objs.size + 3, s1.heap.objs.size + 1] (Nat.le_refl _) (fun e he => by simp at he; rcases he with rfl | rfl | rfl <;> exact ⟨by omega, show (_ : Nat) ≠ _ by omega⟩)
  obtain ⟨T2, t2⟩ := S2 (s1.heap.objs.size + 1) [s1.heap.objs.size + 4, s1.heap.objs.size + 3, s1.heap.objs.size] (by omega) (fun e he => by simp at he; rcases he with rfl | rfl | rfl <;> exact ⟨by omega, show (_ : Nat) ≠ _ by omega⟩)
  exact ⟨s1.heap.objs.size + 4, [s1.heap.objs.size + 4, s1.heap.objs.size + 2, s1.heap.objs.size + 3, s1.heap.objs.size, s1.heap.objs.size + 1], _, _, H1, rfl, I2, turn_zipZ (show (_ : Nat) ≠ _ by omega) (show (_ : Nat) ≠ _ by omega) (show (_ : Nat) ≠ _ by omega) (show (_ : Nat) ≠ _ by omega) (show (_ : Nat) ≠ _ by omega) T1 T2, ⟨hz, hTI, ⟨_, _, hTO⟩, t1 _ h1, t2 _ h2, Nat.zero_le _⟩, fresh5, q⟩
end PyI
-- PyJ
/-! PyJ: what a loop of the mirror walks -/
namespace PyI
open PySem PySem.Spec PyProof.Rows L2

inductive IS where
  | fix (n : Nat) (f : Nat → D) | lst (n : Nat) | enl (n : Nat) | gen (n : Nat) (f : Nat → D) (ok : DH → Prop) | rvl (n len : Nat)
def lstAt (h : DH) (n i : Nat) : Option (Option D) := match h[n]? with
  | some (.lst xs) => some xs[i]?
  | _ => none
open Classical in
noncomputable def itemAt : IS → Nat → DH → Option (Option D)
  | .fix n f, i, _ => some (if i < n then some (f i) else none)
  | .lst n, i, h => lstAt h n i
  | .enl n, i, h => (lstAt h n i).map fun o => o.map fun x => .tup [.int i, x]
  | .gen n f ok, i, h => if ok h then some (if i < n then some (f i) else none) else none
  | .rvl n len, i, h => if i < len then (lstAt h n (len - 1 - i)).bind fun o => o.map some else some none
abbrev MI := DS → DH → Res IS
def isSeq (ds : List D) : IS := .fix ds.length fun i => ds.getD i .non
def isEnum (ds : List D) : IS := .fix ds.length fun i => .tup [.int i, ds.getD i .non]
def isRev (ds : List D) : IS := isSeq ds.reverse
def isRevS (x : Str) : IS := .fix x.cps.size fun i => .str ⟨#[x.cps.getD (x.cps.size - 1 - i) 0]⟩
def isStr (x : Str) : IS := .fix x.cps.size fun i => .str ⟨#[x.cps.getD i 0]⟩
def isStrE (x : Str) : IS := .fix x.cps.size fun i => .tup [.int i, .str ⟨#[x.cps.getD i 0]⟩]
def isRng (lo c : Int) (n : Nat) : IS := .fix n fun i => .int (lo + (i : Nat) * c)

def ItR (K : PySem.W.Frag) (io : List Addr) (H : Hp) (J : It) (src : IS) : Prop :=
  ∀ jo h' H', Step K io H jo H' → R K jo h' H' → ∀ i o, itemAt src i h' = some o → match o with
    | none => J.stop i H'
    | some d => J.go i H' ∧ ∀ x H2, J.yld i H' x H2 → Step K jo H' jo H2 ∧ R K jo h' H2 ∧ DRel K jo H2 x d
def tMI (Z : Zx) (m : MI) : TI := fun st H Rr => ∃ io s h, R Z.K io h H ∧ EnvR Z.K io H st s ∧ PostR Z io H st (ItR Z.K) (m s h) Rr

section
variable {K : PySem.W.Frag} {io jo : List Addr} {h : DH} {H H' : Hp} {J : It} {n : Nat} {G : Hp → Prop} {Y : Nat → Hp → V → Hp → Prop}
theorem ItR.mono {src : IS} (s : Step K io H jo H') (r : ItR K io H J src) : ItR K jo H' J src := fun ko h' H2 t => r ko h' H2 (s.trans t)
/-- a walk that gives told items -/
theorem itFix {f : Nat → D} (w : Walk J n G Y) (hG : ∀ jo H', Step K io H jo H' → G H')
    (hY : ∀ jo h' H' i x H2, Step K io H jo H' → R K jo h' H' → i < n → Y i H' x H2 → Step K jo H' jo H2 ∧ R K jo h' H2 ∧ DRel K jo H2 x (f i)) (stopG : ∀ i H', n ≤ i → G H' → J.stop i H') : ItR K io H J (.fix n f) := by
  intro jo h' H' s r i o e
  simp only [itemAt, Option.some.injEq] at e
  subst e
  by_cases hi : i < n
  · rw [if_pos hi]
    exact ⟨w.goes i H' hi (hG jo H' s), fun x H2 y => hY jo h' H' i x H2 s r hi (w.yields i H' x H2 hi (hG jo H' s) y)⟩
  · rw [if_neg hi]
    exact stopG i H' (Nat.le_of_not_lt hi) (hG jo H' s)
theorem getD_rel {vs : List V} {ds : List D} {i : Nat} {x : V} (r : DRels K io H vs ds) (e : vs[i]? = some x) : DRel K io H x (ds.getD i .non) := by
  obtain ⟨d, e2, q⟩ := r.getV e
  rw [List.getD_eq_getElem?_getD, e2]
  exact q
theorem pair_rel {h' : DH} {T : Addr} {x y : V} {d e : D} (r : R K io h' H) (n : H T = none) (q1 : DRel K io H x d) (q2 : DRel K io H y e) :
    Step K io H io (upd H T (.tup [x, y])) ∧ R K io h' (upd H T (.tup [x, y])) ∧ DRel K io (upd H T (.tup [x, y])) (.ref T) (.tup [d, e]) :=
  ⟨Step.put n, r.put n, .tup (.inl (.inl upd_same)) (.cons (q1.mono (Step.put n)) (.cons (q2.mono (Step.put n)) .nil))⟩
theorem it_tup {a : Addr} {xs : List V} {ds : List D} (q : SqT K H a xs) (r : DRels K io H xs ds) : ItR K io H (Itt K a) (isSeq ds) := by
  rw [isSeq, ← r.length]
  refine itFix walk_tup (fun jo H' s => s.tup a xs q) (fun jo h' H' i x H2 s r' hi y => ?_) fun i H' hi g => ⟨xs, g, hi⟩
  obtain ⟨rfl, e⟩ := y
  exact ⟨Step.refl, r', getD_rel (r.mono s) e⟩
theorem it_scr {a : Addr} {ns : List Int} (q : SqF K H a (ns.map V.int)) : ItR K io H (Itl K a) (isSeq (ns.map D.int)) := by
  rw [isSeq, ← (intsRel (K := K) (io := io) (H := H) ns).length]
  refine itFix walk_list (fun jo H' s => (s.scr a _ q).l) (fun jo h' H' i x H2 s r' hi y => ?_) fun i H' hi g => ⟨_, g, hi⟩
  obtain ⟨rfl, e⟩ := y
  exact ⟨Step.refl, r', getD_rel ((intsRel ns).mono s) e⟩
theorem it_str {x : Str} : ItR K io H (Its x) (isStr x) := by
  refine itFix walk_str (fun _ _ _ => trivial) (fun jo h' H' i v H2 s r' hi y => ?_) fun i H' hi g => hi
  obtain ⟨rfl, c, e, rfl⟩ := y
  refine ⟨Step.refl, r', ?_⟩
  have : x.cps.getD i 0 = c := by simp [Array.getD_eq_getD_getElem?, e]
  rw [this]
  exact .str _
theorem it_revStr {x : Str} : ItR K io H (Itvs x) (isRevS x) := by
  intro jo h' H' s rr i o e
  simp only [itemAt, isRevS, Option.some.injEq] at e
  subst e
  by_cases hi : i < x.cps.size
  · rw [if_pos hi]
    refine ⟨hi, fun v H2 y => ?_⟩
    obtain ⟨rfl, c, e, rfl⟩ := y
    refine ⟨Step.refl, rr, ?_⟩
    have : x.cps.getD (x.cps.size - 1 - i) 0 = c := by simp [Array.getD_eq_getD_getElem?, e]
    rw [this]
    exact .str _
  · rw [if_neg hi]
    show x.cps.size ≤ i
    omega
theorem it_rngC {lo c : Int} {n : Nat} : ItR K io H (Itc lo c n) (isRng lo c n) := by
  refine itFix walk_rangeC (fun _ _ _ => trivial) (fun jo h' H' i v H2 s r' hi y => ?_) fun i H' hi g => hi
  obtain ⟨rfl, rfl⟩ := y
  exact ⟨Step.refl, r', .int _⟩
theorem it_rng {lo : Int} {n : Nat} : ItR K io H (Itr lo n) (isRng lo 1 n) := by
  refine itFix walk_range (fun _ _ _ => trivial) (fun jo h' H' i v H2 s r' hi y => ?_) fun i H' hi g => hi
  obtain ⟨rfl, rfl⟩ := y
  refine ⟨Step.refl, r', ?_⟩
  rw [Int.mul_one]
  exact .int _
theorem lstAt_inv {h' : DH} {n i : Nat} {o : Option D} (e : lstAt h' n i = some o) : ∃ ds, h'[n]? = some (.lst ds) ∧ ds[i]? = o := by
  unfold lstAt at e
  split at e
  · rename_i xs e1; cases e; exact ⟨xs, e1, rfl⟩
  · cases e
theorem lst_at {h' : DH} {a : Addr} {n : Nat} {ds : List D} (r : R K io h' H) (ea : io[n]? = some a) (e : h'[n]? = some (.lst ds)) : ∃ xs, SqL K H a xs ∧ H a = some (.lst xs) ∧ DRels K io H xs ds := by
  obtain ⟨b, e2, xs, hx, rx⟩ := r.obj n _ e
  rw [ea] at e2; cases e2
  exact ⟨xs, .inl (.inl hx), hx, rx⟩
theorem sql_det {a : Addr} {xs ys : List V} (h1 : H a = some (.lst xs)) (h2 : SqL K H a ys) (i : Nat) : (∃ zs, K.lookup a = some zs) ∨ ys = xs := by
  rcases h2 with (h2 | ⟨o, h2⟩) | ⟨o, its, n, k, _⟩
  · rw [h1] at h2; cases h2; exact .inr rfl
  · rw [h1] at h2; cases h2
  · exact .inl ⟨o, k⟩
/-- a list, walked as it stands -/
theorem it_lst {a : Addr} {n : Nat} (ea : io[n]? = some a) : ItR K io H (Itl K a) (.lst n) := by
  intro jo h' H' s r i o e
  obtain ⟨ds, e1, e2⟩ := lstAt_inv (show lstAt h' n i = some o from e)
  obtain ⟨xs, hs, hx, rx⟩ := lst_at r (s.pre n a ea) e1
  cases o with
  | none => exact ⟨xs, hs, by rw [rx.length]; exact List.getElem?_eq_none_iff.mp e2⟩
  | some d =>
    obtain ⟨v, e3, q⟩ := rx.get e2
    refine ⟨⟨xs, v, hs, e3⟩, fun x H2 y => ?_⟩
    obtain ⟨rfl, y⟩ := y
    have := y xs hs
    rw [e3] at this; cases this
    exact ⟨Step.refl, r, q⟩
theorem it_enl {a : Addr} {n : Nat} (ea : io[n]? = some a) : ItR K io H (Ite K a) (.enl n) := by
  intro jo h' H' s r i o e
  obtain ⟨p, ee, rfl⟩ := map_inv (show (lstAt h' n i).map _ = some o from e)
  obtain ⟨ds, e1, e2⟩ := lstAt_inv ee
  obtain ⟨xs, hs, hx, rx⟩ := lst_at r (s.pre n a ea) e1
  cases p with
  | none => exact ⟨xs, hs, by rw [rx.length]; exact List.getElem?_eq_none_iff.mp e2⟩
  | some d =>
    obtain ⟨v, e3, q⟩ := rx.get e2
    refine ⟨⟨xs, v, hs, e3⟩, fun x H2 y => ?_⟩
    obtain ⟨T, z, rfl, hT, rfl, y⟩ := y
    have := y xs hs
    rw [e3] at this; cases this
    exact pair_rel r hT (.int _) q
theorem it_rvl {a : Addr} {n len : Nat} (ea : io[n]? = some a) : ItR K io H (Itv K a len) (.rvl n len) := by
  intro jo h' H' s r i o e
  simp only [itemAt] at e
  split at e
  · rename_i hi
    obtain ⟨p, ee, e0⟩ := bind_inv e
    obtain ⟨d, rfl, rfl⟩ := map_inv e0
    obtain ⟨ds, e1, e2⟩ := lstAt_inv ee
    obtain ⟨xs, hs, hx, rx⟩ := lst_at r (s.pre n a ea) e1
    obtain ⟨v, e3, q⟩ := rx.get e2
    refine ⟨⟨hi, xs, v, hs, e3⟩, fun x H2 y => ?_⟩
    obtain ⟨rfl, y⟩ := y
    have := y xs hs
    rw [e3] at this; cases this
    exact ⟨Step.refl, r, q⟩
  · rename_i hi
    cases e
    exact Nat.le_of_not_lt hi
theorem it_revT {a : Addr} {xs : List V} {ds : List D} (q : SqT K H a xs) (r : DRels K io H xs ds) : ItR K io H (RT.ItvT K a xs.length) (isRev ds) := by
  intro jo h' H' s rr i o e
  have l1 := r.length
  simp only [itemAt, isRev, isSeq, List.length_reverse, Option.some.injEq] at e
  subst e
  have hq := s.tup a xs q
  by_cases hi : i < ds.length
  · rw [if_pos hi]
    have h1 : xs[xs.length - 1 - i]? = some (xs[xs.length - 1 - i]'(by omega)) := List.getElem?_eq_getElem _
    refine ⟨⟨by omega, xs, _, hq, h1⟩, fun x H2 y => ?_⟩
    obtain ⟨rfl, y⟩ := y
    have := y xs hq
    rw [h1] at this; cases this
    refine ⟨Step.refl, rr, ?_⟩
    have e : ds.reverse.getD i .non = ds.getD (xs.length - 1 - i) .non := by
      rw [List.getD_eq_getElem?_getD, List.getD_eq_getElem?_getD, List.getElem?_reverse hi, l1]
    rw [e]
    exact getD_rel (r.mono s) h1
  · rw [if_neg hi]
    show xs.length ≤ i
    omega
theorem it_revS {a : Addr} {ns : List Int} (q : SqF K H a (ns.map V.int)) : ItR K io H (Itv K a (ns.map V.int).length) (isRev (ns.map D.int)) := by
  intro jo h' H' s rr i o e
  have r := intsRel (K := K) (io := io) (H := H) ns
  have l1 := r.length
  simp only [itemAt, isRev, isSeq, List.length_reverse, Option.some.injEq] at e
  subst e
  have hq := (s.scr a _ q).l
  by_cases hi : i < (ns.map D.int).length
  · rw [if_pos hi]
    have h1 : (ns.map V.int)[(ns.map V.int).length - 1 - i]? = some ((ns.map V.int)[(ns.map V.int).length - 1 - i]'(by omega)) := List.getElem?_eq_getElem _
    refine ⟨⟨by omega, _, _, hq, h1⟩, fun x H2 y => ?_⟩
    obtain ⟨rfl, y⟩ := y
    have := y _ hq
    rw [h1] at this; cases this
    refine ⟨Step.refl, rr, ?_⟩
    have e : (ns.map D.int).reverse.getD i .non = (ns.map D.int).getD ((ns.map V.int).length - 1 - i) .non := by
      rw [List.getD_eq_getElem?_getD, List.getD_eq_getElem?_getD, List.getElem?_reverse hi, l1]
    rw [e]
    exact getD_rel (r.mono s) h1
  · rw [if_neg hi]
    show (ns.map V.int).length ≤ i
    omega
theorem it_enumG {xs : List V} {ds : List D} {GG : Hp → Prop} (hG : ∀ jo H', Step K io H jo H' → GG H') (r : DRels K io H xs ds) : ItR K io H (IteG xs.length (fun i x => xs[i]? = some x) GG) (isEnum ds) := by
  intro jo h' H' s rr i o e
  have l1 := r.length
  simp only [itemAt, isEnum, Option.some.injEq] at e
  subst e
  have hq := hG jo H' s
  by_cases hi : i < ds.length
  · rw [if_pos hi]
    refine ⟨⟨by omega, hq⟩, fun x H2 y => ?_⟩
    obtain ⟨T, z, rfl, hT, rfl, y⟩ := y
    exact pair_rel rr hT (.int _) (getD_rel (r.mono s) y)
  · rw [if_neg hi]
    exact ⟨by omega, hq⟩
theorem it_enumStr {x : Str} : ItR K io H (IteG x.cps.size (fun i v => ∃ c, x.cps[i]? = some c ∧ v = .str ⟨#[c]⟩) fun _ => True) (isStrE x) := by
  intro jo h' H' s rr i o e
  simp only [itemAt, isStrE, Option.some.injEq] at e
  subst e
  by_cases hi : i < x.cps.size
  · rw [if_pos hi]
    refine ⟨⟨hi, trivial⟩, fun v H2 y => ?_⟩
    obtain ⟨T, z, rfl, hT, rfl, c, y, rfl⟩ := y
    have : x.cps.getD i 0 = c := by simp [Array.getD_eq_getD_getElem?, y]
    rw [this]
    exact pair_rel rr hT (.int _) (.str _)
  · rw [if_neg hi]
    exact ⟨by omega, trivial⟩
theorem enumScr {a : Addr} {ns : List Int} (q : SqF K H a (ns.map V.int)) : ItR K io H (Ite K a) (isEnum (ns.map D.int)) := by
  intro jo h' H' s rr i o e
  have r := intsRel (K := K) (io := io) (H := H) ns
  have l1 := r.length
  simp only [itemAt, isEnum, Option.some.injEq] at e
  subst e
  have hq := (s.scr a _ q).l
  by_cases hi : i < (ns.map D.int).length
  · rw [if_pos hi]
    have h1 : (ns.map V.int)[i]? = some ((ns.map V.int)[i]'(by omega)) := List.getElem?_eq_getElem _
    refine ⟨⟨_, _, hq, h1⟩, fun x H2 y => ?_⟩
    obtain ⟨T, z, rfl, hT, rfl, y⟩ := y
    have := y _ hq
    rw [h1] at this; cases this
    exact pair_rel rr hT (.int _) (getD_rel (r.mono s) h1)
  · rw [if_neg hi]
    exact ⟨_, hq, by omega⟩
end
end PyI
-- PyK
/-! PyK: the mirror's iterators and their readings -/
namespace PyI
noncomputable section
open PySem PySem.Spec PyProof.Rows L2

def iAny (K : PySem.W.Frag) (te : TE) : TI := fun st H Rr => te st H fun x H1 => (∃ a xs, x = .ref a ∧ SqL K H1 a xs ∧ Rr (Itl K a) H1) ∨ (∃ a xs, x = .ref a ∧ SqT K H1 a xs ∧ Rr (Itt K a) H1) ∨ ∃ y, x = .str y ∧ Rr (Its y) H1
theorem pi_any {X : Cx} {tg e : Expr} {te : TE} (he : PE X e te) : PI X tg e (iAny X.K te) := ⟨fun pins s st H Rr I h => thn (he.run pins s st H _ I h) fun v s1 ⟨x, H1, I1, r1, q1⟩ => by
  rcases q1 with ⟨a, xs, rfl, hq, q⟩ | ⟨a, xs, rfl, hq, q⟩ | ⟨y, rfl, q⟩
  · obtain rfl : v = Value.ref a := r1
    obtain ⟨its, rv, p, hz⟩ := I1.list hq
    exact wpAny_pyIter_list p.isList (pi_one (tk := s1.toks) I1 _ (turn_list a _) ⟨_, Heap.get?_push_size _ rfl, rfl, rfl⟩ q)
  · obtain rfl : v = Value.ref a := r1
    obtain ⟨its, rv, p, hz⟩ := I1.tuple hq
    exact wpAny_pyIter_tuple (show s1.heap.IsTuple a its.toArray from p) (pi_one (tk := s1.toks) I1 _ (turn_tuple a _) ⟨_, Heap.get?_push_size _ rfl, rfl, rfl⟩ q)
  · obtain ⟨t, rfl⟩ := r1
    cases ha : y.cps.all (· < 128) with
    | false => exact wpAny_pyIter_wide ha (pi_one (tk := s1.toks) I1 _ (turn_str _ y t "str_iterator" (.inr rfl)) ⟨_, Heap.get?_push_size _ rfl, rfl, rfl⟩ q)
    | true => exact wpAny_pyIter_ascii ha (pi_one (tk := s1.toks) I1 _ (turn_str _ y t "str_ascii_iterator" (.inl rfl)) ⟨_, Heap.get?_push_size _ rfl, rfl, rfl⟩ q)⟩

def retI (o : Option IS) (h : DH) : Res IS := match o with
  | some i => .ok i h
  | none => .no
def isLst (h : DH) (n : Nat) : Bool := match h[n]? with
  | some (.lst _) => true
  | _ => false
def srcOf (x : D) (h : DH) : Option IS := match x with
  | .tup ds => some (isSeq ds)
  | .scr ns => some (isSeq (ns.map .int))
  | .str x => some (isStr x)
  | .ref n => if isLst h n then some (.lst n) else none
  | _ => none
def iPlain (a : ME) : MI := fun s h => (a s h).bind fun x h1 => retI (srcOf x h1) h1
def smallI (i : Int) : Bool := decide (-hid 4611686018427387904 ≤ i) && decide (i < hid 4611686018427387904)
def rngOf1 : List D → Option IS
  | [.int j] => if smallI j then some (isRng 0 1 j.toNat) else none
  | _ => none
def rngOf2 : List D → Option IS
  | [.int i, .int j] => if smallI i && smallI j then some (isRng i 1 (j - i).toNat) else none
  | _ => none
def rngOf3 : List D → Option IS
  | [.int i, .int j, .int c] => if decide (c ≠ 0) && decide (c.natAbs < 1073741824) && Builtin.Range.small i j c && decide (0 ≤ Builtin.Range.rangeSize i j c) then some (isRng i c (Builtin.Range.rangeSize i j c).toNat) else none
  | _ => none
def iRange (f : List D → Option IS) (l : List ME) : MI := fun s h => (mArgs l s h).bind fun xs h1 => retI (f xs) h1
def enumOf (h : DH) : D → Option IS
  | .tup ds => some (isEnum ds)
  | .scr ns => some (isEnum (ns.map .int))
  | .str x => some (isStrE x)
  | .ref n => if isLst h n then some (.enl n) else none
  | _ => none
def iEnumM (a : ME) : MI := fun s h => (a s h).bind fun x h1 => retI (enumOf h1 x) h1
/-- what zip walks -/
def zsD (h : DH) : D → Option (List D)
  | .tup ds => some ds
  | .scr ns => some (ns.map .int)
  | .str x => some (charsD x)
  | .ref n => match h[n]? with
    | some (.lst xs) => some xs
    | _ => none
  | _ => none
def sameD (h : DH) (d : D) (h' : DH) : Prop := match d with
  | .ref n => h'[n]? = h[n]?
  | _ => True
def zipOf (h : DH) (x y : D) : Option IS := match zsD h x, zsD h y with
  | some xs, some ys => some (.gen (min xs.length ys.length) (fun i => .tup [xs.getD i .non, ys.getD i .non]) fun h' => sameD h x h' ∧ sameD h y h')
  | _, _ => none
def iZipM (a b : ME) : MI := fun s h => (a s h).bind fun x h1 => (b s h1).bind fun y h2 => retI (zipOf h2 x y) h2
def revOf (h : DH) : D → Option IS
  | .tup ds => some (isRev ds)
  | .scr ns => some (isRev (ns.map .int))
  | .str z => if z.length ≤ 16777216 then some (isRevS z) else none
  | .ref n => match h[n]? with
    | some (.lst xs) => some (.rvl n xs.length)
    | _ => none
  | _ => none
def iRevM (a : ME) : MI := fun s h => (a s h).bind fun x h1 => retI (revOf h1 x) h1
def rgArg : List D → Option (Int × Int)
  | [.int j] => some (0, j)
  | [.int i, .int j] => some (i, j)
  | _ => none
def iRevRg (l : List ME) : MI := fun s h => (mArgs l s h).bind fun xs h1 => match rgArg xs with
  | some (a, b) => if smallI a && smallI b then .ok (isRng (a + (((b - a).toNat : Nat) : Int) - 1) (-1) (b - a).toNat) h1 else .no
  | none => .no

section
variable {Z : Zx} {st : L2.St} {H : Hp} {Rr : It → Hp → Prop} {a b c : ME}
theorem retI_post {io : List Addr} {h : DH} {o : Option IS} {Rr : It → Hp → Prop} (p : PostR Z io H st (ItR Z.K) (retI o h) Rr) : ∃ i, o = some i ∧ PostR Z io H st (ItR Z.K) (.ok i h) Rr := by
  cases o with
  | some i => exact ⟨i, rfl, p⟩
  | none => exact p.elim
theorem isLst_inv {h : DH} {n : Nat} (e : isLst h n = true) : ∃ xs, h[n]? = some (.lst xs) := by
  unfold isLst at e
  split at e
  · rename_i xs q; exact ⟨xs, q⟩
  · cases e
theorem lst_here {K : PySem.W.Frag} {io : List Addr} {h : DH} {v : V} {n : Nat} (r : R K io h H) (q : DRel K io H v (.ref n)) (e : isLst h n = true) : ∃ p xs, v = .ref p ∧ io[n]? = some p ∧ SqL K H p xs := by
  obtain ⟨ds, e1⟩ := isLst_inv e
  obtain ⟨p, xs, rfl, ei, hx, rx⟩ := r.isLst q e1
  exact ⟨p, xs, rfl, ei, .inl (.inl hx)⟩
theorem s_iPlain (h : tMI Z (iPlain a) st H Rr) : iAny Z.K (tM Z a) st H Rr := by
  obtain ⟨io, s, h0, hR, hE, p⟩ := h
  refine ⟨io, s, h0, hR, hE, (PostR.bind (rel1 := DRel Z.K) p).imp fun x H1 hx => ?_⟩
  obtain ⟨io1, h1, d1, t1, R1, r1, p1⟩ := hx
  obtain ⟨i, e, p1⟩ := retI_post p1
  cases d1 with
  | tup ds =>
    cases e
    obtain ⟨q, xs, rfl, hs, rx⟩ := r1.tupInv
    exact .inr (.inl ⟨q, xs, rfl, hs, p1.here R1 (it_tup hs rx)⟩)
  | scr ns =>
    cases e
    cases r1 with
    | scr hs => exact .inl ⟨_, _, rfl, hs.l, p1.here R1 (it_scr hs)⟩
  | str y =>
    cases e
    cases r1
    exact .inr (.inr ⟨y, rfl, p1.here R1 it_str⟩)
  | ref n =>
    simp only [srcOf] at e
    split at e
    · rename_i hl
      cases e
      obtain ⟨q, xs, rfl, ei, hs⟩ := lst_here R1 r1 hl
      exact .inl ⟨q, xs, rfl, hs, p1.here R1 (it_lst ei)⟩
    · cases e
  | _ => cases e
theorem smallI_inv {i : Int} (h : smallI i = true) : -(2 ^ 62) ≤ i ∧ i < 2 ^ 62 := by
  unfold smallI at h
  rw [hid_eq] at h
  simp only [Bool.and_eq_true, decide_eq_true_eq] at h
  omega
theorem ints1 {io : List Addr} {vs : List V} {i : Int} (r : DRels Z.K io H vs [.int i]) : vs = [.int i] := by
  cases r with
  | cons a t => cases a; cases t; rfl
theorem ints2 {io : List Addr} {vs : List V} {i j : Int} (r : DRels Z.K io H vs [.int i, .int j]) : vs = [.int i, .int j] := by
  cases r with
  | cons a t => cases a; rw [ints1 t]
theorem ints3 {io : List Addr} {vs : List V} {i j k : Int} (r : DRels Z.K io H vs [.int i, .int j, .int k]) : vs = [.int i, .int j, .int k] := by
  cases r with
  | cons a t => cases a; rw [ints2 t]
theorem rangeM {f : List D → Option IS} {l : List ME} (h : tMI Z (iRange f l) st H Rr) : (tMA Z (mArgs l)) st H fun vs H1 => ∃ io ds h1 i, R Z.K io h1 H1 ∧ DRels Z.K io H1 vs ds ∧ f ds = some i ∧ PostR Z io H1 st (ItR Z.K) (.ok i h1) Rr := by
  obtain ⟨io, s, h0, hR, hE, p⟩ := h
  refine ⟨io, s, h0, hR, hE, (PostR.bind (rel1 := DRels Z.K) p).imp fun x H1 hx => ?_⟩
  obtain ⟨io1, h1, d1, t1, R1, r1, p1⟩ := hx
  obtain ⟨i, e, p1⟩ := retI_post p1
  exact ⟨io1, d1, h1, i, R1, r1, e, p1⟩
theorem tMA.imp {m : MA} {QA QA' : List V → Hp → Prop} (h : tMA Z m st H QA) (w : ∀ vs H1, QA vs H1 → QA' vs H1) : tMA Z m st H QA' := by
  obtain ⟨io, s, h0, hR, hE, p⟩ := h
  exact ⟨io, s, h0, hR, hE, p.imp w⟩
theorem s_range1 (h : tMI Z (iRange rngOf1 [a]) st H Rr) : iRng1 (tMA Z (mArgs [a])) st H Rr := by
  refine tMA.imp (rangeM h) fun vs H1 hx => ?_
  obtain ⟨io, ds, h1, i, R1, r1, e, p1⟩ := hx
  unfold rngOf1 at e
  split at e
  · rename_i j
    split at e
    · rename_i hs
      cases e
      rw [ints1 r1]
      exact ⟨j, rfl, (smallI_inv hs).1, (smallI_inv hs).2, p1.here R1 it_rng⟩
    · cases e
  · cases e
theorem s_range2 (h : tMI Z (iRange rngOf2 [a, b]) st H Rr) : iRng2 (tMA Z (mArgs [a, b])) st H Rr := by
  refine tMA.imp (rangeM h) fun vs H1 hx => ?_
  obtain ⟨io, ds, h1, i, R1, r1, e, p1⟩ := hx
  unfold rngOf2 at e
  split at e
  · rename_i u v
    split at e
    · rename_i hs
      cases e
      simp only [Bool.and_eq_true] at hs
      rw [ints2 r1]
      exact ⟨u, v, rfl, ⟨(smallI_inv hs.1).1, (smallI_inv hs.1).2, (smallI_inv hs.2).1, (smallI_inv hs.2).2⟩, p1.here R1 it_rng⟩
    · cases e
  · cases e
theorem s_range3 (h : tMI Z (iRange rngOf3 [a, b, c]) st H Rr) : iRng3 (tMA Z (mArgs [a, b, c])) st H Rr := by
  refine tMA.imp (rangeM h) fun vs H1 hx => ?_
  obtain ⟨io, ds, h1, i, R1, r1, e, p1⟩ := hx
  unfold rngOf3 at e
  split at e
  · rename_i u v w
    split at e
    · rename_i hs
      cases e
      simp only [Bool.and_eq_true, decide_eq_true_eq] at hs
      rw [ints3 r1]
      exact ⟨u, v, w, _, rfl, ⟨hs.1.1.1, hs.1.1.2, hs.1.2, by omega⟩, p1.here R1 it_rngC⟩
    · cases e
  · cases e
/-- one value, then what it walks -/
theorem oneM {f : DH → D → Option IS} (h : tMI Z (fun s h => (a s h).bind fun x h1 => retI (f h1 x) h1) st H Rr) : tM Z a st H fun v H1 => ∃ io d h1 i, R Z.K io h1 H1 ∧ DRel Z.K io H1 v d ∧ f h1 d = some i ∧ PostR Z io H1 st (ItR Z.K) (.ok i h1) Rr := by
  obtain ⟨io, s, h0, hR, hE, p⟩ := h
  refine ⟨io, s, h0, hR, hE, (PostR.bind (rel1 := DRel Z.K) p).imp fun x H1 hx => ?_⟩
  obtain ⟨io1, h1, d1, t1, R1, r1, p1⟩ := hx
  obtain ⟨i, e, p1⟩ := retI_post p1
  exact ⟨io1, d1, h1, i, R1, r1, e, p1⟩
theorem s_enum (h : tMI Z (iEnumM a) st H Rr) : iEnumA Z.K (tCons (tM Z a) tNil) st H Rr := by
  obtain ⟨io, s, h0, hR, hE, p⟩ := oneM (f := enumOf) h
  refine ⟨io, s, h0, hR, hE, p.imp fun v H1 hx => ?_⟩
  obtain ⟨io, d, h1, i, R1, r1, e, p1⟩ := hx
  cases d with
  | tup ds =>
    cases e
    obtain ⟨q, xs, rfl, hs, rx⟩ := r1.tupInv
    exact .inr (.inl ⟨q, xs, rfl, hs, p1.here R1 (it_enumG (fun jo H' s => s.tup q xs hs) rx)⟩)
  | scr ns =>
    cases e
    cases r1 with
    | scr hs => exact .inl ⟨_, _, rfl, hs.l, p1.here R1 (enumScr hs)⟩
  | str y =>
    cases e
    cases r1
    exact .inr (.inr ⟨y, rfl, p1.here R1 it_enumStr⟩)
  | ref n =>
    simp only [enumOf] at e
    split at e
    · rename_i hl
      cases e
      obtain ⟨q, xs, rfl, ei, hs⟩ := lst_here R1 r1 hl
      exact .inl ⟨q, xs, rfl, hs, p1.here R1 (it_enl ei)⟩
    · cases e
  | _ => cases e
theorem s_revA (h : tMI Z (iRevM a) st H Rr) : iRevT Z.K (tM Z a) st H Rr := by
  obtain ⟨io, s, h0, hR, hE, p⟩ := oneM (f := revOf) h
  refine ⟨io, s, h0, hR, hE, p.imp fun v H1 hx => ?_⟩
  obtain ⟨io, d, h1, i, R1, r1, e, p1⟩ := hx
  cases d with
  | tup ds =>
    cases e
    obtain ⟨q, xs, rfl, hs, rx⟩ := r1.tupInv
    exact .inl ⟨q, xs, rfl, .inr ⟨hs, p1.here R1 (it_revT hs rx)⟩⟩
  | scr ns =>
    cases e
    cases r1 with
    | scr hs => exact .inl ⟨_, _, rfl, .inl ⟨hs.l, p1.here R1 (it_revS hs)⟩⟩
  | str z =>
    simp only [revOf] at e
    split at e
    · rename_i hz
      cases e
      cases r1
      exact .inr ⟨z, rfl, hz, p1.here R1 it_revStr⟩
    · cases e
  | ref n =>
    simp only [revOf] at e
    split at e
    · rename_i xs hl
      cases e
      obtain ⟨q, ys, rfl, ei, hx, rx⟩ := R1.isLst r1 hl
      refine .inl ⟨q, ys, rfl, .inl ⟨.inl (.inl hx), p1.here R1 ?_⟩⟩
      rw [rx.length]
      exact it_rvl ei
    · cases e
  | _ => cases e
theorem zv_of {Z : Zx} {io : List Addr} {h : DH} {H : Hp} {v : V} {x : D} {xs : List D} (R0 : R Z.K io h H) (r : DRel Z.K io H v x) (e : zsD h x = some xs) :
    ∃ PV G, ZV Z.K H v xs.length PV G ∧ (∀ jo h' H', Step Z.K io H jo H' → R Z.K jo h' H' → sameD h x h' → G H') ∧
      ∀ jo h' H' i z, Step Z.K io H jo H' → R Z.K jo h' H' → sameD h x h' → PV i H' z → i < xs.length → DRel Z.K jo H' z (xs.getD i .non) := by
  have fixed : ∀ (a : Addr) (ys : List V), SqT Z.K H a ys → DRels Z.K io H ys xs → v = .ref a → ∃ PV G, ZV Z.K H v xs.length PV G ∧ (∀ jo h' H', Step Z.K io H jo H' → R Z.K jo h' H' → sameD h x h' → G H') ∧
      ∀ jo h' H' i z, Step Z.K io H jo H' → R Z.K jo h' H' → sameD h x h' → PV i H' z → i < xs.length → DRel Z.K jo H' z (xs.getD i .non) := by
    rintro a ys hs rl rfl
    exact ⟨_, _, .inl ⟨a, ys, rfl, hs, rl.length.symm, rfl, rfl⟩, fun jo h' H' s _ _ => s.tup a ys hs, fun jo h' H' i z s _ _ hz _ => getD_rel (rl.mono s) hz⟩
  cases x with
  | tup ds =>
    cases e
    obtain ⟨a, ys, rfl, hs, rl⟩ := r.tupInv
    exact fixed a ys hs rl rfl
  | scr ns =>
    cases e
    cases r with
    | scr hs =>
      rename_i a
      refine ⟨_, _, .inr (.inl ⟨a, _, rfl, hs.l, by simp, rfl, rfl⟩), fun jo h' H' s _ _ => ⟨_, (s.scr a _ hs).l, rfl⟩, fun jo h' H' i z s _ _ hz hi => ?_⟩
      have hz := hz _ (s.scr a _ hs).l
      rw [List.getElem?_map] at hz
      obtain ⟨k, e1, rfl⟩ := Option.map_eq_some_iff.mp hz
      have : (ns.map D.int).getD i .non = .int k := by rw [List.getD_eq_getElem?_getD, List.getElem?_map, e1]; rfl
      rw [this]
      exact .int _
  | str y =>
    cases e
    cases r
    refine ⟨_, _, .inr (.inr ⟨y, rfl, by simp [charsD], rfl, rfl⟩), fun _ _ _ _ _ _ => trivial, fun jo h' H' i z s _ _ hz hi => ?_⟩
    obtain ⟨c, hc, rfl⟩ := hz
    have : (charsD y).getD i .non = .str ⟨#[c]⟩ := by
      unfold charsD
      rw [List.getD_eq_getElem?_getD, List.getElem?_map, Array.getElem?_toList, hc]
      rfl
    rw [this]
    exact .str _
  | ref n =>
    unfold zsD at e
    dsimp only at e
    split at e
    · rename_i ds hl
      cases e
      obtain ⟨a, ys, rfl, ei, hs, rl⟩ := R0.isLst r hl
      refine ⟨_, _, .inr (.inl ⟨a, ys, rfl, .inl (.inl hs), rl.length.symm, rfl, rfl⟩), fun jo h' H' s R' sm => ?_, fun jo h' H' i z s R' sm hz hi => ?_⟩
      · have sm : h'[n]? = h[n]? := sm
        obtain ⟨a', ea, ys', hs', rl'⟩ := R'.obj n _ (sm.trans hl)
        rw [s.pre n a ei] at ea; cases ea
        exact ⟨ys', .inl (.inl hs'), by rw [rl'.length, rl.length]⟩
      · have sm : h'[n]? = h[n]? := sm
        obtain ⟨a', ea, ys', hs', rl'⟩ := R'.obj n _ (sm.trans hl)
        rw [s.pre n a ei] at ea; cases ea
        exact getD_rel rl' (hz _ (.inl (.inl hs')))
    · cases e
  | _ => cases e
theorem s_zip (h : tMI Z (iZipM a b) st H Rr) : iZipG Z.K (tCons (tM Z a) (tCons (tM Z b) tNil)) st H Rr := by
  obtain ⟨io, s, h0, hR, hE, p⟩ := h
  refine ⟨io, s, h0, hR, hE, (PostR.bind (rel1 := DRel Z.K) p).imp fun x H1 hx => ?_⟩
  obtain ⟨io1, h1, d1, t1, R1, r1, p1⟩ := hx
  refine ⟨io1, s, h1, R1, hE.mono t1, (PostR.bind (rel1 := DRel Z.K) p1).imp fun y H2 hy => ?_⟩
  obtain ⟨io2, h2, d2, t2, R2, r2, p2⟩ := hy
  obtain ⟨i, e, p2⟩ := retI_post p2
  have r1 := r1.mono t2
  unfold zipOf at e
  split at e
  · rename_i xs ys e1 e2
    cases e
    obtain ⟨PV1, G1, z1, g1, q1⟩ := zv_of R2 r1 e1
    obtain ⟨PV2, G2, z2, g2, q2⟩ := zv_of R2 r2 e2
    refine ⟨x, y, _, PV1, G1, _, PV2, G2, rfl, z1, z2, p2.here R2 fun jo h' H' s r i o e => ?_⟩
    simp only [itemAt] at e
    split at e
    · rename_i ok
      cases e
      have g1 := g1 jo h' H' s r ok.1
      have g2 := g2 jo h' H' s r ok.2
      by_cases hi : i < min xs.length ys.length
      · rw [if_pos hi]
        refine ⟨⟨hi, g1, g2⟩, fun z H3 y => ?_⟩
        obtain ⟨T, u, w, rfl, hT, rfl, y1, y2⟩ := y
        exact pair_rel r hT (q1 jo h' H' i u s r ok.1 y1 (by omega)) (q2 jo h' H' i w s r ok.2 y2 (by omega))
      · rw [if_neg hi]
        exact ⟨Nat.le_of_not_lt hi, g1, g2⟩
    · cases e
  · cases e
/-- reversed(range(..)), list(range(..)), tuple(range(..)) -/
theorem revRgM {l : List ME} (h : tMI Z (iRevRg l) st H Rr) : (tMA Z (mArgs l)) st H fun vs H1 => ∃ io ds h1 u v, R Z.K io h1 H1 ∧ DRels Z.K io H1 vs ds ∧ rgArg ds = some (u, v) ∧ smallI u = true ∧ smallI v = true ∧
    PostR Z io H1 st (ItR Z.K) (.ok (isRng (u + (((v - u).toNat : Nat) : Int) - 1) (-1) (v - u).toNat) h1) Rr := by
  obtain ⟨io, s, h0, hR, hE, p⟩ := h
  refine ⟨io, s, h0, hR, hE, (PostR.bind (rel1 := DRels Z.K) p).imp fun x H1 hx => ?_⟩
  obtain ⟨io1, h1, d1, t1, R1, r1, p1⟩ := hx
  split at p1
  · rename_i u v e
    split at p1
    · rename_i hs
      simp only [Bool.and_eq_true] at hs
      exact ⟨io1, d1, h1, u, v, R1, r1, e, hs.1, hs.2, p1⟩
    · exact p1.elim
  · exact p1.elim
theorem tM.imp {m : ME} {Q Q' : VK} (h : tM Z m st H Q) (w : ∀ v H1, Q v H1 → Q' v H1) : tM Z m st H Q' := by
  obtain ⟨io, s, h0, hR, hE, p⟩ := h
  exact ⟨io, s, h0, hR, hE, p.imp w⟩
theorem args1 {QA : List V → Hp → Prop} (h : tMA Z (mArgs [a]) st H QA) : tM Z a st H fun x H1 => QA [x] H1 := tM.imp (s_cons h) fun _ _ q => s_nil q
theorem args2 {QA : List V → Hp → Prop} (h : tMA Z (mArgs [a, b]) st H QA) : tM Z a st H fun x H1 => tM Z b st H1 fun y H2 => QA [x, y] H2 :=
  tM.imp (s_cons h) fun _ _ q => tM.imp (s_cons q) fun _ _ q => s_nil q
theorem rgArg1 {io : List Addr} {x : V} {ds : List D} {u v : Int} (r : DRels Z.K io H [x] ds) (e : rgArg ds = some (u, v)) : u = 0 ∧ x = .int v := by
  cases r with
  | cons q t =>
    cases t
    unfold rgArg at e
    split at e
    · rename_i j q2
      cases e
      cases q2
      cases q
      exact ⟨rfl, rfl⟩
    · rename_i q2; cases q2
    · cases e
theorem rgArg2 {io : List Addr} {x y : V} {ds : List D} {u v : Int} (r : DRels Z.K io H [x, y] ds) (e : rgArg ds = some (u, v)) : x = .int u ∧ y = .int v := by
  cases r with
  | cons q t =>
    cases t with
    | cons q' t =>
      cases t
      unfold rgArg at e
      split at e
      · rename_i q2; cases q2
      · rename_i q2
        cases e
        cases q2
        cases q
        cases q'
        exact ⟨rfl, rfl⟩
      · cases e
theorem s_revRg1 (h : tMI Z (iRevRg [a]) st H Rr) : iRevR (tRg1 (tM Z a)) st H Rr := tM.imp (args1 (revRgM h)) fun x H1 hx => by
  obtain ⟨io, ds, h1, u, v, R1, r1, e, s1, s2, p1⟩ := hx
  obtain ⟨rfl, rfl⟩ := rgArg1 r1 e
  exact ⟨v, rfl, (smallI_inv s1).1, (smallI_inv s1).2, (smallI_inv s2).1, (smallI_inv s2).2, p1.here R1 it_rngC⟩
theorem s_revRg2 (h : tMI Z (iRevRg [a, b]) st H Rr) : iRevR (tRg2 (tM Z a) (tM Z b)) st H Rr := tM.imp (args2 (revRgM h)) fun x H1 hx => tM.imp hx fun y H2 hx => by
  obtain ⟨io, ds, h1, u, v, R1, r1, e, s1, s2, p1⟩ := hx
  obtain ⟨rfl, rfl⟩ := rgArg2 r1 e
  exact ⟨u, v, rfl, rfl, (smallI_inv s1).1, (smallI_inv s1).2, (smallI_inv s2).1, (smallI_inv s2).2, p1.here R1 it_rngC⟩
end
def rgD (u v : Int) : List D := (List.range (v - u).toNat).map fun i => D.int (u + (i : Nat))
def rgOk (u v : Int) : Bool := smallI u && smallI v && decide ((v - u).toNat ≤ 16777216)
def mLstRg (l : List ME) : ME := fun s h => (mArgs l s h).bind fun xs h1 => match rgArg xs with
  | some (u, v) => if rgOk u v then .ok (.ref h1.length) (h1 ++ [.lst (rgD u v)]) else .no
  | none => .no
def mTupRg (l : List ME) : ME := fun s h => (mArgs l s h).bind fun xs h1 => match rgArg xs with
  | some (u, v) => if rgOk u v then .ok (.tup (rgD u v)) h1 else .no
  | none => .no
section
variable {Z : Zx} {st : L2.St} {H : Hp} {Q : VK} {a b c : ME}
theorem rg_rel {io : List Addr} (u v : Int) : DRels Z.K io H (rgV u v) (rgD u v) := by
  unfold rgV rgD
  induction List.range (v - u).toNat with
  | nil => exact .nil
  | cons x l ih => exact .cons (.int _) ih
theorem rgOk_inv {u v : Int} (h : rgOk u v = true) : RgOk u v := by
  unfold rgOk at h
  simp only [Bool.and_eq_true, decide_eq_true_eq] at h
  have h1 := smallI_inv h.1.1
  have h2 := smallI_inv h.1.2
  exact ⟨h1.1, h1.2, h2.1, h2.2, by omega⟩
theorem lstRgM {l : List ME} (h : tM Z (mLstRg l) st H Q) : (tMA Z (mArgs l)) st H fun vs H1 => ∃ io ds h1 u v, R Z.K io h1 H1 ∧ DRels Z.K io H1 vs ds ∧ rgArg ds = some (u, v) ∧ RgOk u v ∧
    PostR Z io H1 st (DRel Z.K) (.ok (.ref h1.length) (h1 ++ [.lst (rgD u v)])) Q := by
  obtain ⟨io, s, h0, hR, hE, p⟩ := h
  refine ⟨io, s, h0, hR, hE, (PostR.bind (rel1 := DRels Z.K) p).imp fun x H1 hx => ?_⟩
  obtain ⟨io1, h1, d1, t1, R1, r1, p1⟩ := hx
  split at p1
  · rename_i u v e
    split at p1
    · rename_i hs
      exact ⟨io1, d1, h1, u, v, R1, r1, e, rgOk_inv hs, p1⟩
    · exact p1.elim
  · exact p1.elim
theorem tupRgM {l : List ME} (h : tM Z (mTupRg l) st H Q) : (tMA Z (mArgs l)) st H fun vs H1 => ∃ io ds h1 u v, R Z.K io h1 H1 ∧ DRels Z.K io H1 vs ds ∧ rgArg ds = some (u, v) ∧ RgOk u v ∧
    PostR Z io H1 st (DRel Z.K) (.ok (.tup (rgD u v)) h1) Q := by
  obtain ⟨io, s, h0, hR, hE, p⟩ := h
  refine ⟨io, s, h0, hR, hE, (PostR.bind (rel1 := DRels Z.K) p).imp fun x H1 hx => ?_⟩
  obtain ⟨io1, h1, d1, t1, R1, r1, p1⟩ := hx
  split at p1
  · rename_i u v e
    split at p1
    · rename_i hs
      exact ⟨io1, d1, h1, u, v, R1, r1, e, rgOk_inv hs, p1⟩
    · exact p1.elim
  · exact p1.elim
theorem s_lstRg1 (h : tM Z (mLstRg [a]) st H Q) : tLstRg (tRg1 (tM Z a)) st H Q := tM.imp (args1 (lstRgM h)) fun x H1 hx => by
  obtain ⟨io, ds, h1, u, v, R1, r1, e, ok, p1⟩ := hx
  obtain ⟨rfl, rfl⟩ := rgArg1 r1 e
  exact ⟨v, rfl, ok, fun q hq => newLst R1 (rg_rel 0 v) p1 hq⟩
theorem s_lstRg2 (h : tM Z (mLstRg [a, b]) st H Q) : tLstRg (tRg2 (tM Z a) (tM Z b)) st H Q := tM.imp (args2 (lstRgM h)) fun x H1 hx => tM.imp hx fun y H2 hx => by
  obtain ⟨io, ds, h1, u, v, R1, r1, e, ok, p1⟩ := hx
  obtain ⟨rfl, rfl⟩ := rgArg2 r1 e
  exact ⟨u, v, rfl, rfl, ok, fun q hq => newLst R1 (rg_rel u v) p1 hq⟩
theorem s_tupRg1 (h : tM Z (mTupRg [a]) st H Q) : tTupRg (tRg1 (tM Z a)) st H Q := tM.imp (args1 (tupRgM h)) fun x H1 hx => by
  obtain ⟨io, ds, h1, u, v, R1, r1, e, ok, p1⟩ := hx
  obtain ⟨rfl, rfl⟩ := rgArg1 r1 e
  exact ⟨v, rfl, ok, fun q hq => newTup R1 (rg_rel 0 v) p1 hq⟩
theorem s_tupRg2 (h : tM Z (mTupRg [a, b]) st H Q) : tTupRg (tRg2 (tM Z a) (tM Z b)) st H Q := tM.imp (args2 (tupRgM h)) fun x H1 hx => tM.imp hx fun y H2 hx => by
  obtain ⟨io, ds, h1, u, v, R1, r1, e, ok, p1⟩ := hx
  obtain ⟨rfl, rfl⟩ := rgArg2 r1 e
  exact ⟨u, v, rfl, rfl, ok, fun q hq => newTup R1 (rg_rel u v) p1 hq⟩
end
end
end PyI
-- PyL
/-! PyL: the mirror's targets, comprehensions, statements; their readings -/
namespace PyI
noncomputable section
open PySem PySem.Spec PyProof.Rows L2

/-! ### targets -/
abbrev MG := D → DS → DH → Option (DS × DH)
abbrev MGs := List D → DS → DH → Option (DS × DH)
/-- what the targets leave of the slots: all that stands at none of vs (vs = none: no word of it) -/
def Kept : Option (List Nat) → L2.St → L2.St → Prop
  | none, _, _ => True
  | some vs, st, st' => wipe st' vs = wipe st vs
theorem Kept.refl : ∀ {o : Option (List Nat)} {st : L2.St}, Kept o st st
  | none, _ => trivial
  | some _, _ => rfl
theorem Kept.trans : ∀ {o : Option (List Nat)} {a b c : L2.St}, Kept o a b → Kept o b c → Kept o a c
  | none, _, _, _, _, _ => trivial
  | some _, _, _, _, h1, h2 => Eq.trans h2 h1
def PostG (Z : Zx) (o : Option (List Nat)) (io : List Addr) (st : L2.St) (H : Hp) (r : Option (DS × DH)) (Q : L2.St → Hp → Prop) : Prop := match r with
  | some (s', h') => ∀ st' H' jo, Step Z.K io H jo H' → R Z.K jo h' H' → EnvR Z.K jo H' st' s' → Kept o st st' → Q st' H'
  | none => False
def tMG (Z : Zx) (o : Option (List Nat)) (m : MG) : TG := fun v st H Q => ∃ io s h d, R Z.K io h H ∧ EnvR Z.K io H st s ∧ DRel Z.K io H v d ∧ PostG Z o io st H (m d s h) Q
def tMGs (Z : Zx) (o : Option (List Nat)) (m : MGs) : TGs := fun vs st H Q => ∃ io s h ds, R Z.K io h H ∧ EnvR Z.K io H st s ∧ DRels Z.K io H vs ds ∧ PostG Z o io st H (m ds s h) Q
theorem wipe_comm (st : L2.St) (i : Nat) : ∀ vs : List Nat, (wipe st vs).set i none = wipe (st.set i none) vs
  | [] => rfl
  | v :: vs => by
    show ((wipe st vs).set v none).set i none = (wipe (st.set i none) vs).set v none
    rw [← wipe_comm st i vs]
    by_cases e : i = v
    · subst e; rfl
    · rw [List.set_comm _ _ (Ne.symm e)]
theorem wipe_at (st : L2.St) (x : Option V) : ∀ {vs : List Nat} {i : Nat}, i ∈ vs → wipe (st.set i x) vs = wipe st vs
  | v :: vs, i, h => by
    show (wipe (st.set i x) vs).set v none = (wipe st vs).set v none
    by_cases e : i = v
    · subst e
      rw [wipe_comm, wipe_comm, List.set_set]
    · rw [wipe_at st x ((List.mem_cons.mp h).resolve_left e)]
theorem wipe_wipe (st : L2.St) : ∀ vs ws : List Nat, (∀ v ∈ vs, v ∈ ws) → wipe (wipe st vs) ws = wipe st ws
  | [], _, _ => rfl
  | v :: vs, ws, h => by
    show wipe ((wipe st vs).set v none) ws = wipe st ws
    rw [wipe_at _ none (h v List.mem_cons_self), wipe_wipe st vs ws fun u hu => h u (List.mem_cons_of_mem _ hu)]
def keptI : Option (List Nat) → Nat → Bool
  | none, _ => true
  | some vs, i => vs.contains i
theorem Kept.set {o : Option (List Nat)} {i : Nat} {st : L2.St} (h : keptI o i = true) (x : Option V) : Kept o st (st.set i x) := by
  cases o with
  | none => trivial
  | some vs => exact wipe_at st x (by simpa [keptI] using h)
def gNo : MG := fun _ _ _ => none
def gNm (i : Nat) : MG := fun d s h => some (s.set i (some d), h)
def gsM : List MG → MGs
  | [] => fun ds s h => match ds with
    | [] => some (s, h)
    | _ => none
  | m :: r => fun ds s h => match ds with
    | d :: ds => (m d s h).bind fun q => gsM r ds q.1 q.2
    | [] => none
def gTp (l : List MG) : MG := fun d s h => match d with
  | .tup ds => if ds.length = l.length then gsM l ds s h else none
  | .ref n => match h[n]? with
    | some (.lst ds) => if ds.length = l.length then gsM l ds s h else none
    | _ => none
  | _ => none
/-- a, b, .. = a tuple or a list of that length -/
def gTL (K : PySem.W.Frag) (n : Nat) (t : TGs) : TG := fun v σ H Q => gTup K n t v σ H Q ∨ gLst K n t v σ H Q
theorem pg_tl {X : Cx} {pos : Pos} {es : List Expr} {k : Nat} {t : TGs} {n : Nat} (hc : X.calm = true) (h : PGs X es t)
    (hn : (assignEach es X.env).length = n) (hst : (assignEach es X.env).findIdx? (·.1) = none) : PG X (.Tuple es k pos) (gTL X.K n t) :=
  ⟨fun pins s σ H v u Q I r hw => hw.elim (fun hw => (pg_tup hc h hn hst).run pins s σ H v u Q I r hw) fun hw => (pg_lst hc h hn hst).run pins s σ H v u Q I r hw⟩
def setIx (h : DH) (o i v : D) : Option DH := match o, i with
  | .ref n, .int k => match h[n]? with
    | some (.lst xs) => (ixN xs.length k).map fun j => h.set n (.lst (xs.set j v))
    | _ => none
  | _, _ => none
def okOf {α : Type} : Res α → Option (α × DH)
  | .ok a h => some (a, h)
  | _ => none
def gSubM (a b : ME) : MG := fun v s h => (okOf (a s h)).bind fun p => (okOf (b s p.2)).bind fun q => (setIx q.2 p.1 q.1 v).map fun h3 => (s, h3)

section
variable {Z : Zx} {o : Option (List Nat)} {st st1 : L2.St} {H H' : Hp} {io jo : List Addr} {Q : L2.St → Hp → Prop}
theorem PostG.at {r : Option (DS × DH)} (t : Step Z.K io H jo H') (k : Kept o st st1) (p : PostG Z o io st H r Q) : PostG Z o jo st1 H' r Q := by
  cases r with
  | none => exact p
  | some q => exact fun st' H2 ko u r1 r2 k2 => p st' H2 ko (t.trans u) r1 r2 (k.trans k2)
theorem PostG.here {s : DS} {h : DH} (p : PostG Z o io st H (some (s, h)) Q) (r : R Z.K io h H) (e : EnvR Z.K io H st1 s) (k : Kept o st st1) : Q st1 H := p st1 H io Step.refl r e k
theorem s_gNm {v : V} {i : Nat} (hk : keptI o i = true) (h : tMG Z o (gNm i) v st H Q) : gName i v st H Q := by
  obtain ⟨io, s, h0, d, hR, hE, hd, p⟩ := h
  exact p.here hR (hE.set hd i) (Kept.set hk _)
theorem s_gsNil {vs : List V} (h : tMGs Z o (gsM []) vs st H Q) : gNil vs st H Q := by
  obtain ⟨io, s, h0, ds, hR, hE, hd, p⟩ := h
  cases hd with
  | nil => exact ⟨rfl, p.here hR hE Kept.refl⟩
  | cons a t => exact p.elim
theorem s_gsCons {m : MG} {r : List MG} {vs : List V} (h : tMGs Z o (gsM (m :: r)) vs st H Q) : gCons (tMG Z o m) (tMGs Z o (gsM r)) vs st H Q := by
  obtain ⟨io, s, h0, ds, hR, hE, hd, p⟩ := h
  cases hd with
  | nil => exact p.elim
  | cons a t =>
    rename_i v vs d ds
    refine ⟨v, vs, rfl, io, s, h0, d, hR, hE, a, ?_⟩
    dsimp only [gsM] at p
    cases e : m d s h0 with
    | none => rw [e] at p; exact p.elim
    | some q =>
      rw [e] at p
      exact fun st' H' jo u r1 e1 k1 => ⟨jo, q.1, q.2, ds, r1, e1, t.mono u, PostG.at u k1 p⟩
theorem s_gTp {l : List MG} {v : V} {n : Nat} (hn : l.length = n) (h : tMG Z o (gTp l) v st H Q) : gTL Z.K n (tMGs Z o (gsM l)) v st H Q := by
  obtain ⟨io, s, h0, d, hR, hE, hd, p⟩ := h
  cases d with
  | tup ds =>
    obtain ⟨a, xs, rfl, hs, rx⟩ := hd.tupInv
    dsimp only [gTp] at p
    split at p
    · rename_i e
      exact .inl ⟨a, xs, rfl, hs, by rw [rx.length, e, hn], io, s, h0, ds, hR, hE, rx, p⟩
    · exact p.elim
  | ref n =>
    dsimp only [gTp] at p
    split at p
    · rename_i ds e1
      split at p
      · rename_i e
        obtain ⟨a, ys, rfl, ei, hy, ry⟩ := hR.isLst hd e1
        exact .inr ⟨a, ys, rfl, .inl (.inl hy), by rw [ry.length, e, hn], io, s, h0, ds, hR, hE, ry, p⟩
      · exact p.elim
    · exact p.elim
  | _ => exact p.elim
theorem setIx_ok {o i v : V} {o1 i1 v1 : D} {h h' : DH} {Q : Hp → Prop} (hR : R Z.K io h H) (ro : DRel Z.K io H o o1) (ri : DRel Z.K io H i i1) (rv : DRel Z.K io H v v1) (e : setIx h o1 i1 v1 = some h')
    (q : ∀ H', Step Z.K io H io H' → R Z.K io h' H' → Q H') : rSetL o i v H Q := by
  unfold setIx at e
  split at e
  · rename_i n k
    split at e
    · rename_i xs e1
      obtain ⟨j, ej, rfl⟩ := map_inv e
      obtain ⟨a, ys, rfl, ei, hy, ry⟩ := hR.isLst ro e1
      cases ri
      have st' : Step Z.K io H io (upd H a (.lst (ys.set j v))) := Step.write (List.mem_of_getElem? ei) (.inl ⟨_, hy⟩)
      refine ⟨a, ys, k, j, rfl, rfl, hy, by rw [ry.length]; exact ej, q _ st' (hR.write ei fun s2 => ⟨_, upd_same, (DRels.set rv j ry).mono s2⟩)⟩
    · cases e
  · cases e
theorem okOf_inv {α : Type} {r : Res α} {p : α × DH} (e : okOf r = some p) : r = .ok p.1 p.2 := by
  cases r with
  | ok a h => cases e; rfl
  | exc x h => cases e
  | no => cases e
theorem s_gSub {a b : ME} {v : V} (h : tMG Z o (gSubM a b) v st H Q) : gSub (tM Z a) (tM Z b) rSetL v st H Q := by
  obtain ⟨io, s, h0, d, hR, hE, hd, p⟩ := h
  dsimp only [gSubM] at p
  cases e1 : okOf (a s h0) with
  | none => rw [e1] at p; exact p.elim
  | some p1 =>
    rw [e1] at p
    dsimp only [Option.bind_some] at p
    cases e2 : okOf (b s p1.2) with
    | none => rw [e2] at p; exact p.elim
    | some p2 =>
      rw [e2] at p
      dsimp only [Option.bind_some] at p
      cases e3 : setIx p2.2 p1.1 p2.1 d with
      | none => rw [e3] at p; exact p.elim
      | some h3 =>
        rw [e3] at p
        refine ⟨io, s, h0, hR, hE, ?_⟩
        rw [okOf_inv e1]
        intro x H1 io1 t1 R1 r1
        refine ⟨io1, s, p1.2, R1, hE.mono t1, ?_⟩
        rw [okOf_inv e2]
        intro y H2 io2 t2 R2 r2
        exact setIx_ok R2 (r1.mono t2) r2 ((hd.mono t1).mono t2) e3 fun H3 t3 R3 => p st H3 io2 ((t1.trans t2).trans t3) R3 (((hE.mono t1).mono t2).mono t3) Kept.refl
end

/-! ### statements -/
def mSeq (a b : MS) : MS := fun s h => match a s h with
  | .nx s1 h1 => b s1 h1
  | r => r
def mNext : MS := fun s h => .nx s h
def mStNo : MS := fun _ _ => .no
def mBlock : List MS → MS
  | [] => mNext
  | a :: r => mSeq a (mBlock r)
def mAsg (a : ME) (g : MG) : MS := fun s h => bindS (a s h) s fun d h1 => match g d s h1 with
  | some (s2, h2) => .nx s2 h2
  | none => .no
def mDrop (a : ME) : MS := fun s h => bindS (a s h) s fun _ h1 => .nx s h1
def mRet (a : ME) : MS := fun s h => bindS (a s h) s fun d h1 => .rt d h1
def mRetN : MS := fun s h => .rt .non h
def mBrk : MS := fun s h => .bk s h
def mCnt : MS := fun s h => .ct s h
def mIfS (t : MT) (a b : MS) : MS := fun s h => bindS (t s h) s fun k h1 => if k then a s h1 else b s h1
def mAug (i : Nat) (f : D → D → DH → Res D) (a : ME) : MS := fun s h => match s[i]? with
  | some (some x) => bindS (a s h) s fun y h1 => bindS (f x y h1) s fun z h2 => .nx (s.set i (some z)) h2
  | _ => .no
def forGo (src : IS) (g : MG) (b : MS) : Nat → Nat → DS → DH → SR
  | 0, _, _, _ => .no
  | m + 1, i, s, h => match itemAt src i h with
    | none => .no
    | some none => .nx s h
    | some (some d) => match g d s h with
      | none => .no
      | some (s1, h1) => match b s1 h1 with
        | .nx s2 h2 => forGo src g b m (i + 1) s2 h2
        | .ct s2 h2 => forGo src g b m (i + 1) s2 h2
        | .bk s2 h2 => .nx s2 h2
        | r => r
theorem fuelEx : ∃ n : Nat, n = 1000000 := ⟨_, rfl⟩
/-- a number that no check unfolds -/
def fuel : Nat := fuelEx.choose
theorem fuel_eq : fuel = 1000000 := fuelEx.choose_spec
def mFor (src : MI) (g : MG) (b : MS) : MS := fun s h => bindS (src s h) s fun it h1 => forGo it g b fuel 0 s h1
def whGo (t : MT) (b : MS) : Nat → DS → DH → SR
  | 0, _, _ => .no
  | m + 1, s, h => bindS (t s h) s fun k h1 => if k then (match b s h1 with
      | .nx s2 h2 => whGo t b m s2 h2
      | .ct s2 h2 => whGo t b m s2 h2
      | .bk s2 h2 => .nx s2 h2
      | r => r) else .nx s h1
def mWhile (t : MT) (b : MS) : MS := fun s h => whGo t b fuel s h

section
variable {Z : Zx} {st : L2.St} {H H' : Hp} {io jo : List Addr} {E : Ends} {a : ME} {s : DS} {h : DH}
theorem PostS.imp {r : SR} {E' : Ends} (p : PostS Z io H r E) (h1 : ∀ st H, E.nx st H → E'.nx st H) (h2 : ∀ v H, E.rt v H → E'.rt v H) (h3 : ∀ st H, E.bk st H → E'.bk st H) (h4 : ∀ st H, E.ct st H → E'.ct st H) : PostS Z io H r E' := by
  cases r with
  | nx s h' => exact fun st H' jo u r1 r2 => h1 _ _ (p st H' jo u r1 r2)
  | bk s h' => exact fun st H' jo u r1 r2 => h3 _ _ (p st H' jo u r1 r2)
  | ct s h' => exact fun st H' jo u r1 r2 => h4 _ _ (p st H' jo u r1 r2)
  | rt d h' => exact fun v H' jo u r1 r2 => h2 _ _ (p v H' jo u r1 r2)
  | ex x s h' => exact p
  | no => exact p
theorem PostS.hereN (p : PostS Z io H (.nx s h) E) (r : R Z.K io h H) (e : EnvR Z.K io H st s) : E.nx st H := p st H io Step.refl r e
theorem s_next (h : tMS Z mNext E st H) : tNext E st H := by
  obtain ⟨io, s, h0, hR, hE, p⟩ := h
  exact p.hereN hR hE
theorem s_brk (h : tMS Z mBrk E st H) : tBreak E st H := by
  obtain ⟨io, s, h0, hR, hE, p⟩ := h
  exact p st H io Step.refl hR hE
theorem s_cnt (h : tMS Z mCnt E st H) : tCont E st H := by
  obtain ⟨io, s, h0, hR, hE, p⟩ := h
  exact p st H io Step.refl hR hE
theorem s_seq {x y : MS} (h : tMS Z (mSeq x y) E st H) : tSeq (tMS Z x) (tMS Z y) E st H := by
  obtain ⟨io, s, h0, hR, hE, p⟩ := h
  refine ⟨io, s, h0, hR, hE, ?_⟩
  dsimp only [mSeq] at p
  cases e : x s h0 with
  | nx s1 h1 =>
    rw [e] at p
    exact fun st' H' jo u r1 r2 => ⟨jo, s1, h1, r1, r2, PostS.at u p⟩
  | bk s1 h1 => rw [e] at p; exact p
  | ct s1 h1 => rw [e] at p; exact p
  | rt s1 h1 => rw [e] at p; exact p
  | ex x s1 h1 => rw [e] at p; exact p
  | no => rw [e] at p; exact p
theorem s_asg {g : MG} (h : tMS Z (mAsg a g) E st H) : tAsg (tM Z a) (tMG Z none g) E st H := by
  obtain ⟨io, s, h0, hR, hE, p⟩ := h
  refine ⟨io, s, h0, hR, hE, (PostS.bind (rel1 := DRel Z.K) p hE).imp fun x H1 hx => ?_⟩
  obtain ⟨io1, h1, d1, t1, R1, r1, p1⟩ := hx
  refine ⟨io1, s, h1, d1, R1, hE.mono t1, r1, ?_⟩
  cases e : g d1 s h1 with
  | none => rw [e] at p1; exact p1.elim
  | some q =>
    rw [e] at p1
    exact fun st' H' jo u r1 e1 _ => p1 st' H' jo u r1 e1
theorem s_drop (h : tMS Z (mDrop a) E st H) : tDrop (tM Z a) E st H := by
  obtain ⟨io, s, h0, hR, hE, p⟩ := h
  refine ⟨io, s, h0, hR, hE, (PostS.bind (rel1 := DRel Z.K) p hE).imp fun x H1 hx => ?_⟩
  obtain ⟨io1, h1, d1, t1, R1, r1, p1⟩ := hx
  exact p1.hereN R1 (hE.mono t1)
theorem s_ret (h : tMS Z (mRet a) E st H) : tRet (tM Z a) E st H := by
  obtain ⟨io, s, h0, hR, hE, p⟩ := h
  refine ⟨io, s, h0, hR, hE, (PostS.bind (rel1 := DRel Z.K) p hE).imp fun x H1 hx => ?_⟩
  obtain ⟨io1, h1, d1, t1, R1, r1, p1⟩ := hx
  exact p1 x H1 io1 Step.refl R1 r1
theorem s_retN (h : tMS Z mRetN E st H) : tRetN E st H := by
  obtain ⟨io, s, h0, hR, hE, p⟩ := h
  exact p .non H io Step.refl hR .non
theorem s_ifS {t : MT} {x y : MS} (h : tMS Z (mIfS t x y) E st H) : tIfS (tMT Z t) (tMS Z x) (tMS Z y) E st H := by
  obtain ⟨io, s, h0, hR, hE, p⟩ := h
  refine ⟨io, s, h0, hR, hE, (PostS.bind (rel1 := fun _ _ (b c : Bool) => b = c) p hE).imp fun k H1 hx => ?_⟩
  obtain ⟨io1, h1, d1, t1, R1, r1, p1⟩ := hx
  subst r1
  cases k with
  | true => rw [if_pos rfl]; exact ⟨io1, s, h1, R1, hE.mono t1, p1⟩
  | false => rw [if_neg Bool.false_ne_true]; exact ⟨io1, s, h1, R1, hE.mono t1, p1⟩
theorem s_aug {i : Nat} {r : R2} {f : D → D → DH → Res D} (hs : OpS Z r f) (h : tMS Z (mAug i f a) E st H) : tAug i (tM Z a) r E st H := by
  obtain ⟨io, s, h0, hR, hE, p⟩ := h
  dsimp only [mAug] at p
  split at p
  · rename_i x e
    obtain ⟨v, e1, rx⟩ := hE.get i x e
    refine ⟨v, e1, io, s, h0, hR, hE, (PostS.bind (rel1 := DRel Z.K) p hE).imp fun y H1 hy => ?_⟩
    obtain ⟨io1, h1, d1, t1, R1, r1, p1⟩ := hy
    refine hs io1 h1 H1 st v y x d1 _ R1 (rx.mono t1) r1 ((PostS.bind (rel1 := DRel Z.K) p1 (hE.mono t1)).imp fun z H2 hz => ?_)
    obtain ⟨io2, h2, d2, t2, R2, r2, p2⟩ := hz
    exact p2.hereN R2 (((hE.mono t1).mono t2).set r2 i)
  · exact p.elim
/-- what a body's ends are in a loop -/
theorem loopEnds {r : SR} {N : L2.St → Hp → Prop} {c : DS → DH → SR} (p : PostS Z io H (match r with
        | .nx s2 h2 => c s2 h2
        | .ct s2 h2 => c s2 h2
        | .bk s2 h2 => .nx s2 h2
        | r => r) E) (hN : ∀ st H' jo s2 h2, Step Z.K io H jo H' → R Z.K jo h2 H' → EnvR Z.K jo H' st s2 → PostS Z jo H' (c s2 h2) E → N st H') : PostS Z io H r { E with nx := N, ct := N, bk := E.nx } := by
  cases r with
  | nx s2 h2 => exact fun st' H' jo u r1 r2 => hN st' H' jo s2 h2 u r1 r2 (PostS.at u p)
  | ct s2 h2 => exact fun st' H' jo u r1 r2 => hN st' H' jo s2 h2 u r1 r2 (PostS.at u p)
  | bk s2 h2 => exact p
  | rt d h2 => exact p
  | ex x s2 h2 => exact p
  | no => exact p
theorem s_for {src : MI} {g : MG} {b : MS} (h : tMS Z (mFor src g b) E st H) : tFor (tMI Z src) (tMG Z none g) (tMS Z b) E st H := by
  obtain ⟨io, s, h0, hR, hE, p⟩ := h
  refine ⟨io, s, h0, hR, hE, (PostS.bind (rel1 := ItR Z.K) p hE).imp fun J H1 hx => ?_⟩
  obtain ⟨io1, h1, it, t1, R1, r1, p1⟩ := hx
  refine ⟨fun i m st H => ∃ jo s h, ItR Z.K jo H J it ∧ R Z.K jo h H ∧ EnvR Z.K jo H st s ∧ PostS Z jo H (forGo it g b m i s h) E, ⟨fuel, io1, s, h1, r1, R1, hE.mono t1, p1⟩, ?_⟩
  rintro i m st3 H3 ⟨jo, s3, h3, rI, rR, rE, p3⟩
  cases m with
  | zero => exact p3.elim
  | succ m =>
    dsimp only [forGo] at p3
    cases e : itemAt it i h3 with
    | none => rw [e] at p3; exact p3.elim
    | some o =>
      rw [e] at p3
      have q := rI jo h3 H3 Step.refl rR i o e
      cases o with
      | none => exact .inl ⟨q, p3.hereN rR rE⟩
      | some d =>
        obtain ⟨go, yld⟩ := q
        refine .inr ⟨go, fun st' H' => ∃ jo s h, ItR Z.K jo H' J it ∧ R Z.K jo h H' ∧ EnvR Z.K jo H' st' s ∧ PostS Z jo H' (forGo it g b m (i + 1) s h) E, fun st' H' w => ⟨m, Nat.lt_succ_self _, w⟩, fun x H' y => ?_⟩
        obtain ⟨t4, R4, r4⟩ := yld x H' y
        refine ⟨jo, s3, h3, d, R4, rE.mono t4, r4, ?_⟩
        dsimp only at p3
        cases eg : g d s3 h3 with
        | none => rw [eg] at p3; exact p3.elim
        | some q =>
          rw [eg] at p3
          intro st5 H5 jo5 t5 R5 E5 _
          refine ⟨jo5, q.1, q.2, R5, E5, ?_⟩
          exact loopEnds (PostS.at (t4.trans t5) p3) fun st6 H6 jo6 s6 h6 t6 R6 E6 p6 => ⟨jo6, s6, h6, ((rI.mono t4).mono t5).mono t6, R6, E6, p6⟩
theorem s_while {t : MT} {b : MS} (h : tMS Z (mWhile t b) E st H) : tWhile (tMT Z t) (tMS Z b) E st H := by
  obtain ⟨io, s, h0, hR, hE, p⟩ := h
  refine ⟨fun m st H => ∃ jo s h, R Z.K jo h H ∧ EnvR Z.K jo H st s ∧ PostS Z jo H (whGo t b m s h) E, ⟨fuel, io, s, h0, hR, hE, p⟩, ?_⟩
  rintro m st3 H3 ⟨jo, s3, h3, rR, rE, p3⟩
  cases m with
  | zero => exact p3.elim
  | succ m =>
    dsimp only [whGo] at p3
    refine ⟨jo, s3, h3, rR, rE, (PostS.bind (rel1 := fun _ _ (b c : Bool) => b = c) p3 rE).imp fun k H4 hk => ?_⟩
    obtain ⟨io4, h4, k', t4, R4, r4, p4⟩ := hk
    subst r4
    cases k with
    | true =>
      rw [if_pos rfl] at p4 ⊢
      refine ⟨fun st' H' => ∃ jo s h, R Z.K jo h H' ∧ EnvR Z.K jo H' st' s ∧ PostS Z jo H' (whGo t b m s h) E, fun st' H' w => ⟨m, Nat.lt_succ_self _, w⟩, io4, s3, h4, R4, rE.mono t4, ?_⟩
      exact loopEnds p4 fun st6 H6 jo6 s6 h6 t6 R6 E6 p6 => ⟨jo6, s6, h6, R6, E6, p6⟩
    | false =>
      rw [if_neg Bool.false_ne_true] at p4 ⊢
      exact p4.hereN R4 (rE.mono t4)
end
end
end PyI
-- PyL2
/-! PyL2: a, *b = a tuple -/
namespace PyI
open PySem PySem.Spec PyProof.Rows L2

theorem walks_shift {prog : Program} {w : World} {A : Around} {I : Addr} {fp wr : List Addr} {n : Nat} {P : Nat → Value → Prop} {St : Nat → Heap → Prop} (W : Walks prog w A I fp wr n P St) (k : Nat) (hk : k ≤ n) :
    Walks prog w A I fp wr (n - k) (fun i v => P (k + i) v) (fun i h => St (k + i) h) where
  sub := W.sub
  frame := fun i h h' st q => W.frame (k + i) h h' st q
  item := fun i s Q E hi st hQ => W.item (k + i) s Q E (by omega) st fun v h' tk a b c => hQ v h' tk a (by rw [Nat.add_assoc] at b; exact b) c
  done := fun s Q E st hQ => W.done s Q E (by rw [show k + (n - k) = n by omega] at st; exact st) hQ
  self := fun i s Q E st hQ => W.self (k + i) s Q E st hQ
section
variable {prog : Program} {w : World} {A : Around} {E : Value → Shared → Prop} {s : Shared}
theorem unpackItems_star {t : Addr} {items : Array Value} {k : Nat} {Q : List Value → Shared → Prop} (hh : A.handled = none) (ht : s.heap.IsTuple t items) (hk : k ≤ items.size) (hz : items.size ≤ sizeLine)
    (hQ : ∀ (h' : Heap) (tk : Nat), (∀ b o, s.heap.get? b = some o → h'.get? b = some o) → Q (items.toList.take k ++ [.ref h'.objs.size]) { s with heap := h'.push { cls := .type "list", data := .seq (items.toList.drop k).toArray }, toks := tk }) :
    wpAny (model prog w) A (unpackItems (.ref t) (k + 1) (some k)) Q E s := by
  have hlt : t ≠ s.heap.objs.size := by obtain ⟨o, ho, _⟩ := ht; exact Nat.ne_of_lt (Heap.lt_size ho)
  unfold unpackItems
  refine wpAny_bind ?_
  unfold notIterableAtAll
  refine wpAny_bind (wpAny_specialOf ht.typeIs F.slot_tuple_iter.lookup ?_)
  refine wpAny_pure ?_
  simp only [Bool.false_eq_true, if_false]
  refine wpAny_bind (wpAny_holding (wpAny_pyIter_tuple ht ?_))
  refine wpAny_bind (wpAny_holding (wpAny_draw_tuple hlt k 0 _ _ ⟨_, Heap.get?_push_size _ rfl, rfl, rfl⟩ (ht.push _) (by omega) fun h₁ hit₁ hs₁ => ?_))
  have hlen : (List.take k (List.drop 0 items.toList)).length = k := by
    rw [List.drop_zero, List.length_take, Array.length_toList, Nat.min_eq_left hk]
  rw [if_neg (by rw [hlen]; exact Nat.lt_irrefl _)]
  have ht₁ : h₁.IsTuple t items := (ht.push _).extBut hs₁.extBut hlt
  have W := walks_shift (Walks.tuple (prog := prog) (w := w) (A := A.in1) hh s.heap.objs.size t hlt items) k hk
  have hitI : s.heap.objs.size < h₁.objs.size := by obtain ⟨o, ho, _⟩ := hit₁; exact Heap.lt_size ho
  have htt : t < h₁.objs.size := by obtain ⟨o, ho, _⟩ := ht₁; exact Heap.lt_size ho
  refine wpAny_bind (wpAny_holding (wpAny_collect_iter (.inr (.inr (.inr rfl))) W.toS (fun i s' st => let ⟨⟨o, ho, hc, _⟩, _⟩ := st; ⟨o, ho, hc⟩) ⟨by simpa using hit₁, ht₁⟩ (fun b hb => ?_) (by simp) (fun s' acc hm ha => ?_) (Nat.le_trans (Nat.sub_le _ _) hz)))
  · simp only [List.mem_cons, List.not_mem_nil, or_false] at hb
    rcases hb with rfl | rfl
    · exact hitI
    · exact htt
  · have hacc : acc.toList = items.toList.drop k := by
      apply List.ext_getElem?
      intro j
      rw [List.getElem?_drop, Array.getElem?_toList, Array.getElem?_toList]
      by_cases hj : j < acc.size
      · have := ha.2 j acc[j] (by simp [hj])
        rw [this]
        simp [hj]
      · rw [Array.getElem?_eq_none (by omega), Array.getElem?_eq_none (by have := ha.1; omega)]
    rw [if_neg (show ¬ acc.toList.length < k + 1 - 1 - k by omega)]
    refine wpAny_bind (wpAny_newList ?_ ?_)
    · have e : acc.toList.take (acc.toList.length - (k + 1 - 1 - k)) = items.toList.drop k := by
        rw [hacc, List.take_of_length_le (by omega)]
      have e2 : acc.toList.drop (acc.toList.length - (k + 1 - 1 - k)) = [] := by
        rw [List.drop_eq_nil_iff]; omega
      rw [e, e2, List.drop_zero, List.append_nil]
      have es : s' = { s with heap := s'.heap, toks := s'.toks } := by
        have a := hm.gens; have b := hm.drawn; have c := hm.os
        cases s'; cases s
        simp only at a b c
        subst a; subst b; subst c
        rfl
      rw [es]
      refine wpAny_pure (hQ s'.heap s'.toks fun b o e => hm.heap b o (fun z => ?_) (hs₁.extBut b o (Nat.ne_of_lt (Heap.lt_size e)) (Heap.get?_push_of_some _ e)))
      rw [List.mem_singleton] at z
      exact absurd (Heap.lt_size e) (by rw [z]; exact Nat.lt_irrefl _)
    · rw [List.length_take, hacc, List.length_drop, Array.length_toList]; omega
end
/-! the rule, by values -/
def gStar (K : PySem.W.Frag) (n : Nat) (t : TGs) : TG := fun v st H Q => ∃ a xs, v = .ref a ∧ SqT K H a xs ∧ n ≤ xs.length ∧ ∀ p, H p = none → t (xs.take n ++ [.ref p]) st (upd H p (.lst (xs.drop n))) Q
theorem vals_take {vs : List V} {us : List Value} (r : Vals vs us) : ∀ n, Vals (vs.take n) (us.take n) := by
  induction r with
  | nil => intro n; cases n <;> exact .nil
  | cons a _ ih =>
    intro n
    cases n with
    | zero => exact .nil
    | succ n => exact .cons a (ih n)
theorem vals_drop {vs : List V} {us : List Value} (r : Vals vs us) : ∀ n, Vals (vs.drop n) (us.drop n) := by
  induction r with
  | nil => intro n; cases n <;> exact .nil
  | cons a r ih =>
    intro n
    cases n with
    | zero => exact .cons a r
    | succ n => exact ih n
theorem pg_star {X : Cx} {es : List Expr} {k n : Nat} {t : TGs} {pos : Pos} (hc : X.calm = true) (h : PGs X es t) (hn : (assignEach es X.env).length = n + 1) (hst : (assignEach es X.env).findIdx? (·.1) = some n) : PG X (.Tuple es k pos) (gStar X.K n t) := by
  refine ⟨fun pins s σ H v u Q I r hw => ?_⟩
  obtain ⟨a, xs, e1, hq, hl, hw⟩ := hw
  subst e1
  cases r
  obtain ⟨its, rv, ht, hz⟩ := I.tuple hq
  rw [arm_assign_Tuple]
  refine wpAny_bind (wpAny_standAt ?_)
  unfold unpack
  rw [hn, hst]
  refine wpAny_bind (wpAny_holding (unpackItems_star (I.ok.hd hc) ht (by rw [List.size_toArray, ← rv.length]; exact hl) (by rw [List.size_toArray, ← rv.length]; exact hz) fun h' tk hk => ?_))
  have I0 : Inv X pins σ H { s with heap := h', toks := tk } := I.kept hk
  have hfr : H h'.objs.size = none := I0.hok.fresh (Nat.le_refl _)
  have hv : Vals (xs.drop n) (its.drop n) := vals_drop rv n
  have I1 : Inv X pins σ (upd H h'.objs.size (.lst (xs.drop n))) { s with heap := h'.push { cls := .type "list", data := .seq (its.toArray.toList.drop n).toArray }, toks := tk } := by
    refine I0.laid (t' := tk) (fun b u e => Heap.get?_push_of_some _ e) (Nat.le_refl _) ?_
    exact ⟨by rw [List.length_drop]; omega, its.drop n, 0, hv, Heap.get?_push_size _ rfl⟩
  exact h.run pins _ σ _ _ _ Q I1 ((vals_take (by simpa using rv) n).append (.cons (show RelV (.ref h'.objs.size) (.ref h'.objs.size) from rfl) .nil)) (hw _ hfr)
/-- the mirror -/
def gStM (l : List MG) : MG := fun d s h => match d with
  | .tup ds => if l.length ≤ ds.length + 1 ∧ 1 ≤ l.length then gsM l (ds.take (l.length - 1) ++ [.ref h.length]) s (h ++ [.lst (ds.drop (l.length - 1))]) else none
  | _ => none
theorem DRels.takeR {K : PySem.W.Frag} {io : List Addr} {H : Hp} {vs : List V} {ds : List D} (r : DRels K io H vs ds) (n : Nat) : DRels K io H (vs.take n) (ds.take n) := r.take n
theorem s_gStM {Z : Zx} {o : Option (List Nat)} {st : L2.St} {H : Hp} {Q : L2.St → Hp → Prop} {l : List MG} {v : V} {n : Nat} (hn : l.length = n + 1) (h : tMG Z o (gStM l) v st H Q) : gStar Z.K n (tMGs Z o (gsM l)) v st H Q := by
  obtain ⟨io, s, h0, d, hR, hE, hd, p⟩ := h
  cases d with
  | tup ds =>
    obtain ⟨a, xs, rfl, hs, rx⟩ := hd.tupInv
    dsimp only [gStM] at p
    split at p
    · rename_i e
      have hl : l.length - 1 = n := by omega
      rw [hl] at p
      refine ⟨a, xs, rfl, hs, by rw [rx.length]; omega, fun q hq => ?_⟩
      have t : Step Z.K io H (io ++ [q]) (upd H q (.lst (xs.drop n))) := Step.grow hq (Step.put hq)
      refine ⟨io ++ [q], s, h0 ++ [.lst (ds.drop n)], _, hR.grow (x := .lst (ds.drop n)) hq ⟨xs.drop n, upd_same, DRels.mono t (rx.drop n)⟩, hE.mono t, DRels.append (DRels.mono t (rx.take n)) (.cons (.ref ?_) .nil), PostG.at t Kept.refl p⟩
      rw [← hR.len]
      simp
    · exact p.elim
  | _ => exact p.elim
end PyI
-- PyM
/-! PyM: list comprehensions of the mirror -/
namespace PyI
noncomputable section
open PySem PySem.Spec PyProof.Rows L2

/-- what a reading of data leans on -/
structure Wk (K : PySem.W.Frag) (io : List Addr) (H : Hp) (jo : List Addr) (H' : Hp) : Prop where
  pre : ∀ (n : Nat) (a : Addr), io[n]? = some a → jo[n]? = some a
  tup : ∀ a xs, SqT K H a xs → SqT K H' a xs
  scr : ∀ a xs, SqF K H a xs → SqF K H' a xs
  rng : ∀ a lo hi, H a = some (.rng lo hi) → H' a = some (.rng lo hi)
section
variable {K : PySem.W.Frag} {io jo : List Addr} {H H' : Hp} {st : L2.St} {s : DS} {p : Addr} {o : HO}
theorem Step.wk (t : Step K io H jo H') : Wk K io H jo H' := ⟨t.pre, t.tup, t.scr, t.rng⟩
mutual
theorem DRel.wk (t : Wk K io H jo H') : ∀ {v : V} {d : D}, DRel K io H v d → DRel K jo H' v d
  | _, _, .non => .non
  | _, _, .bl b => .bl b
  | _, _, .int i => .int i
  | _, _, .str x => .str x
  | _, _, .ty n => .ty n
  | _, _, .tup h r => .tup (t.tup _ _ h) (DRels.wk t r)
  | _, _, .scr h => .scr (t.scr _ _ h)
  | _, _, .rng h => .rng (t.rng _ _ _ h)
  | _, _, .ref h => .ref (t.pre _ _ h)
theorem DRels.wk (t : Wk K io H jo H') : ∀ {vs : List V} {ds : List D}, DRels K io H vs ds → DRels K jo H' vs ds
  | _, _, .nil => .nil
  | _, _, .cons h r => .cons (DRel.wk t h) (DRels.wk t r)
end
theorem pairedWk (t : Wk K io H jo H') : ∀ {ks : List (Key × V)} {kvs : List (D × D)},
    Paired (fun (p : Key × V) (q : D × D) => DKey p.1 q.1 ∧ DRel K io H p.2 q.2) ks kvs → Paired (fun (p : Key × V) (q : D × D) => DKey p.1 q.1 ∧ DRel K jo H' p.2 q.2) ks kvs
  | _, _, .nil => .nil
  | _, _, .cons r u => .cons ⟨r.1, r.2.wk t⟩ (pairedWk t u)
theorem ORel.wk {a : Addr} {x : O} (t : Wk K io H jo H') (e : H' a = H a) (r : ORel K io H a x) : ORel K jo H' a x := by
  cases x with
  | lst ds => obtain ⟨xs, q, u⟩ := r; exact ⟨xs, e.trans q, u.wk t⟩
  | dic kvs => obtain ⟨ks, q, u⟩ := r; exact ⟨ks, e.trans q, pairedWk t u⟩
theorem EnvR.wk (t : Wk K io H jo H') (e : EnvR K io H st s) : EnvR K jo H' st s := ⟨e.len, fun i d h => by
  obtain ⟨v, h1, h2⟩ := e.get i d h
  exact ⟨v, h1, h2.wk t⟩⟩
/-- a list of nobody's is written -/
theorem Wk.own {xs : List V} (h : H p = some (.lst xs)) : Wk K io H io (upd H p o) where
  pre := fun _ _ e => e
  tup := fun a ys q => by
    have ne : ∀ u, H a = some u → (∀ zs, u ≠ .lst zs) → a ≠ p := fun u e n z => by
      subst z
      rw [h] at e
      exact n _ (Option.some.inj e).symm
    rcases q with (q | ⟨u, q⟩) | q
    · exact .inl (.inl (by rw [upd_ne (ne _ q fun _ z => nomatch z)]; exact q))
    · exact .inl (.inr ⟨u, by rw [upd_ne (ne _ q fun _ z => nomatch z)]; exact q⟩)
    · exact .inr q
  scr := fun a ys q => by
    rcases q with ⟨u, q⟩ | q
    · refine .inl ⟨u, ?_⟩
      rw [upd_ne]
      · exact q
      · intro z
        subst z
        rw [h] at q
        cases q
    · exact .inr q
  rng := fun a lo hi q => by
    rw [upd_ne]
    · exact q
    · intro z
      subst z
      rw [h] at q
      cases q
theorem R.own {h : DH} {xs : List V} (r : R K io h H) (e : H p = some (.lst xs)) (n : p ∉ io) : R K io h (upd H p o) := ⟨r.len, r.inj, fun i x ex => by
  obtain ⟨b, e2, q⟩ := r.obj i x ex
  refine ⟨b, e2, q.wk (Wk.own e) (upd_ne fun z => ?_)⟩
  subst z
  exact n (List.mem_of_getElem? e2)⟩
/-- .. seen from a place where it was not yet -/
theorem Step.own {xs : List V} (t : Step K io H jo H') (hn : H p = none) (e : H' p = some (.lst xs)) : Step K io H jo (upd H' p o) where
  pre := t.pre
  tup := fun a ys q => (Wk.own (K := K) (io := jo) e).tup a ys (t.tup a ys q)
  scr := fun a ys q => (Wk.own (K := K) (io := jo) e).scr a ys (t.scr a ys q)
  rng := fun a lo hi q => (Wk.own (K := K) (io := jo) e).rng a lo hi (t.rng a lo hi q)
  oth := fun a u q n => by
    rw [upd_ne]
    · exact t.oth a u q n
    · intro z
      subst z
      rw [hn] at q
      cases q
  new := t.new
/-- .. and comes to the mirror -/
theorem Wk.more : Wk K io H (io ++ [p]) H := ⟨fun n a e => by rw [List.getElem?_append_left (List.getElem?_eq_some_iff.mp e).1]; exact e, fun _ _ q => q, fun _ _ q => q, fun _ _ _ q => q⟩
theorem R.adopt {h : DH} {xs : List V} {ds : List D} (r : R K io h H) (e : H p = some (.lst xs)) (n : p ∉ io) (rx : DRels K io H xs ds) : R K (io ++ [p]) (h ++ [.lst ds]) H where
  len := by rw [List.length_append, List.length_append, r.len]; rfl
  inj := by
    rw [List.nodup_append]
    refine ⟨r.inj, by simp, fun a ha b hb => ?_⟩
    rw [List.mem_singleton] at hb
    subst hb
    intro z
    subst z
    exact n ha
  obj := fun i x ex => by
    by_cases hi : i < h.length
    · rw [List.getElem?_append_left hi] at ex
      obtain ⟨b, e2, q⟩ := r.obj i x ex
      exact ⟨b, by rw [List.getElem?_append_left (by rw [r.len]; exact hi)]; exact e2, q.wk Wk.more rfl⟩
    · rw [List.getElem?_append_right (Nat.le_of_not_lt hi)] at ex
      have hz : i - h.length = 0 := by
        have := (List.getElem?_eq_some_iff.mp ex).1
        simp at this
        omega
      rw [hz] at ex
      simp at ex
      subst ex
      refine ⟨p, ?_, xs, e, rx.wk Wk.more⟩
      have : i = io.length := by rw [r.len]; omega
      subst this
      simp
theorem Step.adopt (t : Step K io H jo H') (hn : H p = none) : Step K io H (jo ++ [p]) H' where
  pre := fun n a e => (Wk.more (K := K) (H := H')).pre n a (t.pre n a e)
  tup := t.tup
  scr := t.scr
  rng := t.rng
  oth := t.oth
  new := fun a m => by
    rcases List.mem_append.mp m with q | q
    · exact t.new a q
    · rw [List.mem_singleton] at q; subst q; exact .inr hn
end

def wipeD (s : DS) : List Nat → DS
  | [] => s
  | v :: vs => (wipeD s vs).set v none
theorem EnvR.wipe {K : PySem.W.Frag} {io : List Addr} {H : Hp} {st : L2.St} {s : DS} (e : EnvR K io H st s) : ∀ vs : List Nat, EnvR K io H (L2.wipe st vs) (wipeD s vs)
  | [] => e
  | v :: vs => (EnvR.wipe e vs).unset v
def tYesM : MT := fun _ h => .ok true h
def lcGo (src : IS) (g : MG) (t : MT) (e : ME) (s0 : DS) : Nat → Nat → List D → DH → Res (List D)
  | 0, _, _, _ => .no
  | m + 1, i, acc, h => match itemAt src i h with
    | none => .no
    | some none => .ok acc h
    | some (some d) => match g d s0 h with
      | none => .no
      | some (s1, h1) => match t s1 h1 with
        | .ok true h2 => match e s1 h2 with
          | .ok y h3 => if acc.length < 16777216 then lcGo src g t e s0 m (i + 1) (acc ++ [y]) h3 else .no
          | _ => .no
        | .ok false h2 => lcGo src g t e s0 m (i + 1) acc h2
        | _ => .no
def mLc (src : MI) (g : MG) (t : MT) (e : ME) (vs : List Nat) : ME := fun s h => (src s h).bind fun it h1 => (lcGo it g t e (wipeD s vs) fuel 0 [] h1).bind fun xs h2 => .ok (.ref h2.length) (h2 ++ [.lst xs])
def Zx.quiet (Z : Zx) : Zx := { Z with W := fun _ _ _ _ => False }
theorem s_lc {Z : Zx} {st : L2.St} {H : Hp} {Q : VK} {src : MI} {g : MG} {t : MT} {e : ME} {vs : List Nat} (h : tM Z (mLc src g t e vs) st H Q) :
    tLc (tMI Z src) (tMG Z.quiet (some vs) g) (tMT Z.quiet t) (tM Z.quiet e) vs st H Q := by
  have hz := sizeLine_eq
  obtain ⟨io, s, h0, hR, hE, p⟩ := h
  refine ⟨io, s, h0, hR, hE, (PostR.bind (rel1 := ItR Z.K) p).imp fun J H1 hx => ?_⟩
  obtain ⟨io1, h1, it, t1, R1, r1, p1⟩ := hx
  intro L hL
  have E1 : EnvR Z.K io1 H1 (wipe st vs) (wipeD s vs) := (hE.mono t1).wipe vs
  refine ⟨fun i m H3 => ∃ jo h acc xs, Step Z.K io1 H1 jo H3 ∧ R Z.K jo h H3 ∧ EnvR Z.K jo H3 (wipe st vs) (wipeD s vs) ∧ L ∉ jo ∧ H3 L = some (.lst xs) ∧ DRels Z.K jo H3 xs acc ∧
      PostR Z io1 H1 st (DRel Z.K) ((lcGo it g t e (wipeD s vs) m i acc h).bind fun xs h2 => .ok (.ref h2.length) (h2 ++ [.lst xs])) Q,
    ⟨fuel, io1, h1, [], [], Step.put hL, R1.put hL, E1.mono (Step.put hL), R1.fresh hL, upd_same, .nil, p1⟩, ?_⟩
  rintro i m H3 ⟨jo, h3, acc, xs, t3, R3, E3, nL, eL, rx, p3⟩
  cases m with
  | zero => exact p3.elim
  | succ m =>
    dsimp only [lcGo] at p3
    cases ei : itemAt it i h3 with
    | none => rw [ei] at p3; exact p3.elim
    | some o =>
      rw [ei] at p3
      have q := r1 jo h3 H3 t3 R3 i o ei
      cases o with
      | none =>
        refine .inl ⟨q, p3 (.ref L) H3 (jo ++ [L]) (t3.adopt hL) (R3.adopt eL nL rx) (.ref ?_)⟩
        rw [← R3.len]
        simp
      | some d =>
        obtain ⟨go, yld⟩ := q
        refine .inr ⟨go, fun H' => ∃ jo h acc xs, Step Z.K io1 H1 jo H' ∧ R Z.K jo h H' ∧ EnvR Z.K jo H' (wipe st vs) (wipeD s vs) ∧ L ∉ jo ∧ H' L = some (.lst xs) ∧ DRels Z.K jo H' xs acc ∧
          PostR Z io1 H1 st (DRel Z.K) ((lcGo it g t e (wipeD s vs) m (i + 1) acc h).bind fun xs h2 => .ok (.ref h2.length) (h2 ++ [.lst xs])) Q, fun H' w => ⟨m, Nat.lt_succ_self _, w⟩, fun x H' y => ?_⟩
        obtain ⟨t4, R4, r4⟩ := yld x H' y
        refine ⟨jo, wipeD s vs, h3, d, R4, E3.mono t4, r4, ?_⟩
        dsimp only at p3
        cases eg : g d (wipeD s vs) h3 with
        | none => rw [eg] at p3; exact p3.elim
        | some q =>
          rw [eg] at p3
          intro st5 H5 jo5 t5 R5 E5 k5
          refine ⟨by rw [show wipe st5 vs = wipe (wipe st vs) vs from k5, wipe_wipe st vs vs fun _ z => z], jo5, q.1, q.2, R5, E5, ?_⟩
          dsimp only at p3
          have T5 := t4.trans t5
          have keepL : ∀ {ko : List Addr} {H6 : Hp}, Step Z.K jo H3 ko H6 → L ∉ ko ∧ H6 L = some (.lst xs) := by
            intro ko H6 u
            refine ⟨fun z => ?_, u.oth L _ eL nL⟩
            rcases u.new L z with q | q
            · exact nL q
            · rw [eL] at q; cases q
          cases et : t q.1 q.2 with
          | no => rw [et] at p3; exact p3.elim
          | exc _ _ => rw [et] at p3; exact p3.elim
          | ok b h6 =>
            rw [et] at p3
            intro b' H6 jo6 t6 R6 rb
            subst rb
            have T6 := T5.trans t6
            obtain ⟨n6, e6⟩ := keepL T6
            cases b' with
            | false =>
              rw [if_neg Bool.false_ne_true]
              exact ⟨jo6, h6, acc, xs, t3.trans T6, R6, E3.mono T6, n6, e6, rx.mono T6, p3⟩
            | true =>
              rw [if_pos rfl]
              dsimp only at p3
              refine ⟨jo6, q.1, h6, R6, E5.mono t6, ?_⟩
              cases ee : e q.1 h6 with
              | no => rw [ee] at p3; exact p3.elim
              | exc _ _ => rw [ee] at p3; exact p3.elim
              | ok y h7 =>
                rw [ee] at p3
                intro y' H7 jo7 t7 R7 ry
                have T7 := T6.trans t7
                obtain ⟨n7, e7⟩ := keepL T7
                dsimp only at p3
                split at p3
                · rename_i hl
                  refine ⟨xs, e7, by rw [rx.length]; omega, jo7, h7, acc ++ [y], xs ++ [y'], (t3.trans T7).own hL e7, R7.own e7 n7, (E3.mono T7).wk (Wk.own e7), n7, upd_same, ((rx.mono T7).wk (Wk.own e7)).append (.cons (ry.wk (Wk.own e7)) .nil), p3⟩
                · exact p3.elim
end
end PyI
-- PyN
/-! PyN: defs and calls, where it is known that nothing is being shown (guards = []) -/
namespace PyI
open PySem PySem.Spec PyProof.Rows L2

/-! ### binding -/
def pickL {α : Type} : List Nat → List α → Option (List α)
  | [], _ => some []
  | j :: r, xs => xs[j]?.bind fun x => (pickL r xs).map fun ys => x :: ys
/-- what stands for a parameter that is not given -/
def dfV : Option Int → V
  | none => .non
  | some i => .int i
def dfD : Option Int → D
  | none => .non
  | some i => .int i
theorem df_rel {K : PySem.W.Frag} {io : List Addr} {H : Hp} : ∀ dl : List (Option Int), DRels K io H (dl.map dfV) (dl.map dfD)
  | [] => .nil
  | none :: r => .cons .non (df_rel r)
  | some i :: r => .cons (.int i) (df_rel r)
def BindK (K : PySem.W.Frag) (fd : FuncData) (ps : List Str) (n : Nat) (ks : List Str) (pm : List Nat) (dl : List (Option Int)) : Prop :=
  ∀ (s : Shared) (us ws : List Value), K.In s.heap → us.length = n → ws.length = ks.length → ∃ es ys, Vals (dl.map dfV) es ∧ pickL pm (us ++ ws ++ es) = some ys ∧ ys.length = ps.length ∧ BindsTo s fd ⟨us, ks.zip ws⟩ (ps.zip ys)
theorem pick_vals : ∀ {pm : List Nat} {vs : List V} {us : List Value} {xs : List V} {ys : List Value}, Vals vs us → pickL pm vs = some xs → pickL pm us = some ys → Vals xs ys
  | [], _, _, _, _, _, e1, e2 => by cases e1; cases e2; exact .nil
  | j :: r, vs, us, xs, ys, h, e1, e2 => by
    obtain ⟨x, a1, e1⟩ := bind_inv e1
    obtain ⟨xs, b1, rfl⟩ := map_inv e1
    obtain ⟨y, a2, e2⟩ := bind_inv e2
    obtain ⟨ys, b2, rfl⟩ := map_inv e2
    obtain ⟨u, h1, h2⟩ := h.get a1
    rw [a2] at h1; cases h1
    exact .cons h2 (pick_vals h b1 b2)
theorem pick_rel {K : PySem.W.Frag} {io : List Addr} {H : Hp} : ∀ {pm : List Nat} {vs : List V} {ds : List D} {es : List D}, DRels K io H vs ds → pickL pm ds = some es → ∃ xs, pickL pm vs = some xs ∧ DRels K io H xs es
  | [], _, _, _, _, e => by cases e; exact ⟨[], rfl, .nil⟩
  | j :: r, vs, ds, es, h, e => by
    obtain ⟨d, a, e⟩ := bind_inv e
    obtain ⟨es, b, rfl⟩ := map_inv e
    obtain ⟨v, h1, h2⟩ := h.get a
    obtain ⟨xs, h3, h4⟩ := pick_rel h b
    refine ⟨v :: xs, ?_, .cons h2 h4⟩
    show (vs[j]?.bind fun x => (pickL r vs).map fun ys => x :: ys) = _
    rw [h1, h3]
    rfl

/-! ### the promise of a def -/
structure FnG (P : Program) (w : World) (K : PySem.W.Frag) (mg : Str → Option Value) (base : Heap) (X : CXT) (k : Nat) (f : Addr) (fd : FuncData) (ps : List Str) (sp : Sp) : Prop where
  len : ∀ vs H Q E, sp vs H Q E → vs.length = ps.length
  go : ∀ (A : Around) (outer : List Env) (s : Shared) (H : Hp) (args : Args) (us : List Value) (vs : List V) (Q : VK) (E : XK), A.guards = some [] → Room k A → Env0 P w K mg base A outer s H → BindsTo s fd args (ps.zip us) → Vals vs us → sp vs H Q E →
    codeAny (model P w) A (.call (.ref f) args) (CR X outer P w H s Q E) s
theorem FnG.more {P : Program} {w : World} {K : PySem.W.Frag} {mg : Str → Option Value} {base : Heap} {X : CXT} {j k : Nat} {f : Addr} {fd : FuncData} {ps : List Str} {sp : Sp} (F : FnG P w K mg base X j f fd ps sp) (h : j ≤ k) : FnG P w K mg base X k f fd ps sp :=
  ⟨F.len, fun A outer s H args us vs Q E hg hr => F.go A outer s H args us vs Q E hg (hr.mono h)⟩
theorem guards_deeper {A : Around} {env : Env} (h : A.guards = some []) : (A.deeper env).guards = some [] := h

/-- a body keeps the promise -/
theorem fnG_of {P : Program} {w : World} {K : PySem.W.Frag} {mg : Str → Option Value} {base : Heap} {k : Nat} {x : Str} {st : Stmt} {f : Addr} {fd : FuncData} {N ps : List Str} {sp : Sp} (F : Fun K x x st f fd) (S : FnScope N ps (defScope st))
    (len : ∀ vs H Q E, sp vs H Q E → vs.length = ps.length)
    (body : ∀ (cdv : Value) (A : Around) (outer : List Env) (s : Shared) (H : Hp) (vs : List V) (Q : VK) (E : XK), A.guards = some [] → Room k (A.deeper (envOfC x (defScope st) s.heap.objs.size f cdv)) → sp vs H Q E →
      ∃ t, PSs (cxOf (L2.CX P w) P w K mg base N x (defScope st) f cdv A outer s H E) (defBody st) t ∧ t { nx := fun _ H' => Q .non H', rt := Q } (start N vs) H) :
    FnG P w K mg base (L2.CX P w) (k + 1) f fd ps sp := by
  obtain ⟨oc, od, kV, doc, pm, an, cdv, ct, osl, rfl, look, code⟩ := F.ex
  refine ⟨len, fun A outer s H args us vs Q E guards room e0 binds vals asked => ?_⟩
  have inHeap : K.In s.heap := e0.mod.kin.keeps fun b o z => (e0.bs b o z).1
  have noLimit : s.heap.NoLimit := e0.mod.nolimit.keeps fun b o z => (e0.bs b o z).1
  refine codeAny_call_function room.depth (inHeap _ _ look) rfl S.co S.gen rfl (PySem.W.codeRec_of inHeap code) (binds _ _ _ _ ?_)
  refine wpAny_newFunctionEnv_cells S.kind (fun y hy => ?_) fun env he s1 x1 => ?_
  · rcases S.par y.1 (List.of_mem_zip (show (y.1, y.2) ∈ ps.zip us from hy)).1 with q | q
    · exact .inl q
    · exact .inr ⟨q, PySem.W.cellsFrom_some _ _ _ (.inl q)⟩
  · subst he
    obtain ⟨t, ht, hq⟩ := body cdv A outer s H vs Q E guards (room.deeper _) asked
    refine ⟨noLimit.keeps x1.toInCall.keep, codeAny_func (wpAny_mono (ht.run [] s1 (start N vs) H _ (inv_start S room.hd e0 (len _ _ _ _ asked) vals x1) hq) (fun fl s' hs => ?_) fun _ _ z => z)⟩
    cases fl with
    | ret u => exact let ⟨v, st', H', J, rv, q⟩ := hs; ⟨v, H', J.os, J.bare, J.base, J.hok, rv, q⟩
    | next => exact let ⟨st', H', J, q⟩ := hs; ⟨.non, H', J.os, J.bare, J.base, J.hok, rfl, q⟩
    | brk => exact let ⟨_, _, _, q⟩ := hs; q.elim
    | cont => exact let ⟨_, _, _, q⟩ := hs; q.elim

/-! ### calls -/
section
variable {X : Cx} {k : Nat} {f : Addr} {fd : FuncData} {ps ks : List Str} {sp : Sp} {E : L2.St → XK} {x : Str} {pm : List Nat} {dl : List (Option Int)}
theorem goG {G : CXT} {pins : List (Addr × Obj)} {st : L2.St} {H : Hp} {s : Shared} {Q : VK} {us ws : List Value} {vs zs xs : List V} {n : Nat} (F : FnG X.prog X.w X.K X.mg X.base G k f fd ps sp) (hg : X.A.guards = some []) (hr : Room k X.A)
    (hb : BindK X.K fd ps n ks pm dl) (hx : PassesAt G X st (E st)) (I : Inv X pins st H s) (r : Vals vs us) (rz : Vals zs ws) (l1 : us.length = n) (l2 : ws.length = ks.length) (e : pickL pm (vs ++ zs ++ dl.map dfV) = some xs) (h : sp xs H Q (E st)) :
    wpAny (model X.prog X.w) X.A (call (.ref f) us (ks.zip ws)) (EP X pins st Q) X.xe s := by
  obtain ⟨ws', ys, rd, e2, l3, b⟩ := hb s us ws I.kIn l1 l2
  refine wpAny_call (codeAny_mono (F.go X.A X.stack s H ⟨us, ks.zip ws⟩ ys xs Q (E st) hg hr I.env0 b (pick_vals ((r.append rz).append rd) e e2) h) fun res s' hq => ?_)
  cases res with
  | error u => exact hx pins H s u s' I hq
  | ok fl =>
    cases fl with
    | ret u => exact I.after hq
    | _ => exact False.elim hq
def kwNames : List Keyword → Option (List Str)
  | [] => some []
  | ⟨some n, _, _⟩ :: r => (kwNames r).map fun l => n :: l
  | ⟨none, _, _⟩ :: _ => none
theorem kwTrees : ∀ {kws : List Keyword} {ks : List Str} {pos : Pos} {env : Env}, kwNames kws = some ks →
    (backToKw pos (keywordEach kws env)).all (·.1.isSome) = true ∧ (backToKw pos (keywordEach kws env)).any (·.1.isNone) = false ∧ (backToKw pos (keywordEach kws env)).filterMap (·.1) = ks
  | [], _, _, _, e => by cases e; exact ⟨rfl, rfl, rfl⟩
  | ⟨some n, v, p⟩ :: r, ks, pos, env, e => by
    obtain ⟨l, e1, rfl⟩ := map_inv e
    obtain ⟨h1, h2, h3⟩ := kwTrees (pos := pos) (env := env) e1
    unfold backToKw at h1 h2 h3 ⊢
    refine ⟨?_, ?_, ?_⟩
    · show (true && List.all _ _) = true
      rw [h1]
      rfl
    · show (false || List.any _ _) = false
      rw [h2]
      rfl
    · show n :: List.filterMap _ _ = n :: l
      rw [h3]
  | ⟨none, v, p⟩ :: r, ks, pos, env, e => by cases e
def tCallG (sp : Sp) (pm : List Nat) (dl : List (Option Int)) (n m : Nat) (E : L2.St → XK) (t tk : TA) : TE := fun st H Q => t st H fun vs H1 => tk st H1 fun zs H2 => vs.length = n ∧ zs.length = m ∧ ∃ xs, pickL pm (vs ++ zs ++ dl.map dfV) = some xs ∧ sp xs H2 Q (E st)
theorem pe_callG {G : CXT} {es : List Expr} {kws : List Keyword} {p pos : Pos} {t tk : TA} (F : FnG X.prog X.w X.K X.mg X.base G k f fd ps sp) (hgd : X.A.guards = some []) (hr : Room k X.A) (hg : Gl X x) (hm : X.mg x = some (.ref f)) (hk : PySem.W.keepIn X.K (.ref f) = true)
    (hb : BindK X.K fd ps es.length ks pm dl) (hx : ∀ st, PassesAt G X st (E st)) (ha : PA X es t) (ha0 : es = [] → ∀ st H (QA : List V → Hp → Prop), t st H QA → QA [] H) (hkw : PK X kws tk) (hs : noStars es = true) (hks : kwNames kws = some ks) (hdb : (x == ("__debug__" : Str)) = false) :
    PE X (.Call (.Name x p) es kws pos) (tCallG sp pm dl es.length ks.length E t tk) := by
  refine ⟨fun pins s st H Q I h => wpAny_Call_Name_kw (ld_glob I hg hm ?_ hdb)⟩
  obtain ⟨n1, n2⟩ := noStars_trees (env := X.env) (pos := pos) hs
  obtain ⟨k1, k2, k3⟩ := kwTrees (pos := pos) (env := X.env) hks
  have fin : ∀ {us ws : List Value} {s2 : Shared} {vs zs : List V} {H2 : Hp}, Vals vs us → Vals zs ws → Inv X pins st H2 s2 → (vs.length = es.length ∧ zs.length = ks.length ∧ ∃ xs, pickL pm (vs ++ zs ++ dl.map dfV) = some xs ∧ sp xs H2 Q (E st)) →
      wpAny (model X.prog X.w) X.A (call (.ref f) us (ks.zip ws)) (EP X pins st Q) X.xe s2 := by
    intro us ws s2 vs zs H2 r rz I2 q
    obtain ⟨l1, l2, xs, e, q⟩ := q
    exact goG F hgd hr hb (hx st) I2 r rz (by rw [← r.length]; exact l1) (by rw [← rz.length]; exact l2) e q
  have kwz : ∀ {us : List Value} {s1 : Shared} {vs : List V} {H1 : Hp}, Vals vs us → Inv X pins st H1 s1 → (tk st H1 fun zs H2 => vs.length = es.length ∧ zs.length = ks.length ∧ ∃ xs, pickL pm (vs ++ zs ++ dl.map dfV) = some xs ∧ sp xs H2 Q (E st)) →
      wpAny (model X.prog X.w) X.A (evalAll ((backToKw pos (keywordEach kws X.env)).map (·.2))) (fun ws s2 => X.K.In s2.heap ∧ wpAny (model X.prog X.w) X.A (call (.ref f) us (((backToKw pos (keywordEach kws X.env)).filterMap (·.1)).zip ws)) (EP X pins st Q) X.xe s2) X.xe s1 := by
    intro us s1 vs H1 r I1 q
    refine thn (hkw.run pos pins s1 st H1 _ I1 q) fun ws s2 ⟨zs, H2, I2, rz, q2⟩ => ⟨I2.kIn, ?_⟩
    rw [k3]
    exact fin r rz I2 q2
  cases es with
  | nil => exact PySem.W.callWith_KW0 (h₀ := X.base) I.ok.mod.kin hk k1 (kwz (vs := []) .nil I (ha0 rfl st H _ h)) (by rw [k2]; rfl)
  | cons e es =>
    have h0 : isStar e = false := by
      unfold noStars at hs
      rw [List.all_cons, Bool.and_eq_true] at hs
      simpa using hs.1
    exact PySem.W.callWith_KW (h₀ := X.base) I.ok.mod.kin hk k1 (thn (ha.run pos pins s st H _ I h) fun us s1 ⟨vs, H1, I1, r, q⟩ => kwz r I1 q) (by rw [n1, k2]; rfl) (starEach_cons h0)
end
end PyI
-- PyO
/-! PyO: the head of a law, for promises where nothing is being shown -/
namespace PyI
open PySem PySem.Spec PyProof.Rows L2

/-- the abstract heap at the law's call: the script alone, unless it is the module's own -/
def hp0 (own : Bool) (a : Addr) (o : Obj) (ns : List Int) : Hp := fun b => if b = a then (if own then none else some (.frz o (.lst (ns.map V.int)))) else none
section
variable {own : Bool} {a b : Addr} {o : Obj} {ns : List Int}
theorem hp0_ne (h : b ≠ a) : hp0 own a o ns b = none := if_neg h
theorem hp0_own : hp0 true a o ns b = none := by
  unfold hp0
  split <;> rfl
theorem hp0_at : hp0 false a o ns a = some (.frz o (.lst (ns.map V.int))) := if_pos rfl
theorem hp0_some {u : HO} (h : hp0 own a o ns b = some u) : b = a ∧ own = false ∧ u = .frz o (.lst (ns.map V.int)) := by
  by_cases e : b = a
  · subst e
    cases own with
    | true => rw [hp0_own] at h; cases h
    | false => rw [hp0_at] at h; cases h; exact ⟨rfl, rfl, rfl⟩
  · rw [hp0_ne e] at h; cases h
end
theorem law_G {P : Program} {w : World} {K : PySem.W.Frag} {mg mb : Str → Option Value} {k : Nat} {fa a : Addr} {fd : FuncData} {x : Str} {sp : Sp} {s : Shared} {vs : List Value} {ns : List Int}
    (kin : K.In s.heap) (glob : s.heap.Ns mainGlobals mg) (blt : s.heap.Ns builtinsNs mb) (bltIs : ∀ x : Str, x ≠ "__name__" → mb x = bootBuiltins x) (noLim : s.heap.NoLimit) (noGen : s.gens = #[])
    (script : s.heap.get? a = some { cls := .type "list", data := .seq vs.toArray }) (isInt : IntsAre vs ns) (small : ns.length ≤ sizeLine) (room : Room k callerA)
    (F : ∀ base : Heap, K.In base → base.Ns mainGlobals mg → FnG P w K mg base (L2.CX P w) k fa fd [x] sp) (bind : ∀ (s : Shared) (u : Value), BindsTo s fd ⟨[u], []⟩ [(x, u)])
    (asked : ∀ H : Hp, SqF K H a (ns.map V.int) → (∀ b, H b = none ∨ b = a) → sp [.ref a] H (fun v _ => v = .bl true) fun _ _ _ => False) :
    codeAny (model P w) callerA (.call (.ref fa) ⟨[.ref a], []⟩) (fun r s' => r = .ok (.ret (.bool true)) ∧ OldK s.heap s'.heap ∧ s'.os = s.os ∧ AllBare s'.gens) s := by
  have vals := vals_ints isInt
  have count := isInt.length
  obtain ⟨own, hown⟩ : ∃ own : Bool, own = (K.lookup a).isSome := ⟨_, rfl⟩
  obtain ⟨H, hH⟩ : ∃ H : Hp, H = hp0 own a { cls := .type "list", data := .seq vs.toArray } ns := ⟨_, rfl⟩
  have only : ∀ {b : Addr} {u : HO}, H b = some u → b = a ∧ own = false ∧ u = .frz { cls := .type "list", data := .seq vs.toArray } (.lst (ns.map V.int)) := fun {b u} e => by
    rw [hH] at e
    exact hp0_some e
  have untr : ∀ {b : Addr}, (∀ u, H b ≠ some u) → H b = none := fun {b} n => by
    cases e : H b with
    | none => rfl
    | some u => exact absurd e (n u)
  -- an object that is no list stands outside
  have free : ∀ {b : Addr} {o : Obj}, s.heap.get? b = some o → o ≠ { cls := .type "list", data := .seq vs.toArray } → H b = none := fun {b o} e n => untr fun u z => by
    obtain ⟨rfl, _, _⟩ := only z
    rw [script] at e
    exact n (Option.some.inj e).symm
  have inB : ∀ {b : Addr} {o : Obj}, s.heap.get? b = some o → H b = none → (hidT s.heap H).get? b = some o := fun e n => hidT_get e n
  have nsB : ∀ {b : Addr} {m : Str → Option Value}, s.heap.Ns b m → (hidT s.heap H).Ns b m := fun {b m} ⟨o, es, ep, e, d, r⟩ => ⟨o, es, ep, inB e (free e fun z => by rw [z] at d; cases d), d, r⟩
  have kB : K.In (hidT s.heap H) := fun b o e => inB (kin b o e) (untr fun u z => by
    obtain ⟨rfl, f, _⟩ := only z
    rw [f, e] at hown
    cases hown)
  have listed : SqF K H a (ns.map V.int) := by
    cases ho : own with
    | false => exact .inl ⟨{ cls := .type "list", data := .seq vs.toArray }, by rw [hH, ho]; exact hp0_at⟩
    | true =>
      rw [ho] at hown
      obtain ⟨o, e⟩ := Option.isSome_iff_exists.mp hown.symm
      have e2 := kin a o e
      rw [script] at e2
      cases e2
      exact .inr ⟨_, vs.toArray, _, e, rfl, rfl, rfl, by rw [List.size_toArray, count]; exact small, by simpa using vals⟩
  have hok : HOk P w H s.heap := fun b u z => by
    obtain ⟨rfl, _, rfl⟩ := only z
    exact ⟨script, by rw [List.length_map]; exact small, vs, _, vals, script⟩
  have env : Env0 P w K mg (hidT s.heap H) callerA [] s H := ⟨rfl, ⟨kB, nsB glob, ⟨mb, nsB blt, bltIs⟩, let ⟨mc, h1, h2⟩ := noLim; ⟨mc, nsB h1, h2⟩⟩, fun b o e => of_hidT e, Nat.le_of_eq (hidT_size _ _), trivial,
    fun b z => absurd (show b ∈ ([] : List Addr) from z) (by simp), hok, .of_eq noGen⟩
  have run := (F _ kB (nsB glob)).go callerA [] s H ⟨[.ref a], []⟩ [.ref a] [.ref a] _ _ rfl room env (bind s (.ref a)) (.cons rfl .nil) (asked H listed fun b => by
    cases e : H b with
    | none => exact .inl rfl
    | some u => exact .inr (only e).1)
  refine codeAny_mono run fun r s' q => ?_
  cases r with
  | error e => exact let ⟨_, _, _, _, _, _, _, _, _, _, _, _, z⟩ := q; z.elim
  | ok fl =>
    cases fl with
    | ret u =>
      obtain ⟨v, H', os, bare, un, hok', rv, qv⟩ := q
      subst qv
      cases rv
      refine ⟨rfl, OldK.of_keep fun b o e => ?_, os, bare⟩
      cases z : H b with
      | none => exact un.keep b o e z (fun q => nomatch q) (by simp)
      | some u =>
        obtain ⟨_, _, rfl⟩ := only z
        obtain ⟨e1, _⟩ := hok b _ z
        obtain ⟨e2, _⟩ := hok' b _ (un.frzs b _ _ z)
        rw [e] at e1
        cases e1
        exact e2
    | _ => exact False.elim q
theorem walk_G {l : PySem.W.OpenLaw} {n k : Nat} {q : Program} {loose : List Str} {XP : (Str → Option Value) → Heap → Prop} {YP : World → Heap → Prop} {d : DefRec} {x : Str}
    (most : l.most = some n) (small : n ≤ sizeLine) (plain : d.params.defaults = []) (room : Room k callerA)
    (F : ∀ (w : World) (mg : Str → Option Value) (fa : Addr) (h : Heap), YP w h → h.Ns mainGlobals mg → mg d.name = some (.ref fa) →
      ∃ (K : PySem.W.Frag) (fd : FuncData) (sp : Sp), K.In h ∧ (∀ (s : Shared) (u : Value), BindsTo s fd ⟨[u], []⟩ [(x, u)]) ∧
        (∀ (H : Hp) (a : Addr) (ns : List Int), ns.length ≤ n → SqF K H a (ns.map V.int) → (∀ b, H b = none ∨ b = a) → sp [.ref a] H (fun v _ => v = .bl true) fun _ _ _ => False) ∧
        ∀ base : Heap, K.In base → base.Ns mainGlobals mg → FnG l.prog w K mg base (L2.CX l.prog w) k fa fd [x] sp) :
    PySem.W.WalkO q loose XP YP l.row.toRowW d [] (fun f vs => PySem.call f vs) := by
  refine Att.attach_call most plain fun w s₀ s₁ mg mb fa o pm cd doc a vs ns G Y _ _ _ hmg script isInt len gens => ?_
  obtain ⟨K, fd, sp, kin, bind, asked, go⟩ := F w mg fa _ Y G.T.g hmg
  exact law_G kin G.T.g G.T.b G.T.builtins G.T.nolimit gens script isInt (Nat.le_trans len small) room go bind fun H h1 h2 => asked H a ns len h1 h2
end PyI
-- PyI2
/-! PyI2: len(set(t)), t a tuple of ints; the empty dict -/
namespace PyI
noncomputable section
open PySem PySem.Spec PyProof.Rows L2
/-- each number once -/
def ddL : List Int → List Int
  | [] => []
  | x :: r => if x ∈ r then ddL r else x :: ddL r
theorem ddL_mem : ∀ {l : List Int} {k : Int}, k ∈ ddL l ↔ k ∈ l
  | [], k => Iff.rfl
  | x :: r, k => by
    unfold ddL
    split
    · rename_i h
      rw [ddL_mem, List.mem_cons]
      exact ⟨.inr, fun z => z.elim (fun e => by rw [e]; exact h) id⟩
    · rw [List.mem_cons, List.mem_cons, ddL_mem]
theorem ddL_nodup : ∀ {l : List Int}, (ddL l).Nodup
  | [] => List.nodup_nil
  | x :: r => by
    unfold ddL
    split
    · exact ddL_nodup
    · rename_i h
      exact List.nodup_cons.mpr ⟨fun z => h (ddL_mem.mp z), ddL_nodup⟩
theorem ddL_len : ∀ {l : List Int}, (ddL l).length ≤ l.length
  | [] => Nat.le_refl _
  | x :: r => by
    have := ddL_len (l := r)
    unfold ddL
    split <;> simp <;> omega
def mLenSet (a : ME) : ME := fun s h => (a s h).bind fun x h1 => match x with
  | .tup ds => match intsOf ds with
    | some ns => if ns.length ≤ 1000 then .ok (.int ((ddL ns).length : Nat)) h1 else .no
    | none => .no
  | _ => .no
def tLenSetT (K : PySem.W.Frag) (ta : TE) : TE := fun σ H Q => ta σ H fun x H1 => ∃ (l : Addr) (ns : List Int), x = V.ref l ∧ SqT K H1 l (ns.map V.int) ∧ ns.length ≤ 1000 ∧ Q (.int ((ddL ns).length : Nat)) H1
theorem pe_lenSetT {X : Cx} {a : Expr} {ta : TE} {p p2 q pos : Pos} (hc : X.calm = true) (hg : Gl X "len") (hm : X.mg "len" = none) (hg2 : Gl X "set") (hm2 : X.mg "set" = none) (ha : PE X a ta)
    (na : starEach [a] X.env = (false, eval a X.env) :: starEach [] X.env) : PE X (.Call (.Name "len" p) [.Call (.Name "set" p2) [a] [] q] [] pos) (tLenSetT X.K ta) := by
  refine ⟨fun pins s σ H Q I h => ?_⟩
  refine Call_ (ld_blt I hg hm PySem.boot_len ?_)
  refine PyProof.Rows.callWith_builtin1 (PyProof.Rows.args_cons ?_ rfl) rfl rfl
  refine Call_ (ld_blt I hg2 hm2 PyProof.Rows.boot_set ?_)
  refine PyProof.Rows.callWith_type1 (PyProof.Rows.args_cons (thn (ha.run pins s σ H _ I h) fun v s1 ⟨x, H1, I1, r1, q1⟩ => PyProof.Rows.args_nil ?_) na) na rfl
  obtain ⟨l, ns, rfl, hq, hl, q1⟩ := q1
  cases r1
  obtain ⟨its, rv, pt, hz⟩ := I1.tuple hq
  have hi : IntsAre its.toArray.toList ns := ints_of_vals rv
  refine call_set_tupI ns (I1.ok.hd hc) (show s1.heap.IsTuple l its.toArray from pt) hi (by unfold scanBound; omega) fun h' tk c R1 hcn k => ?_
  obtain ⟨o, es, ep, t, ho, hex, hd, g, nd, hm3, hb, hf, hn, hr, hl2⟩ := R1
  refine PyProof.Rows.args_nil ?_
  have I2 : Inv X pins σ H1 { s1 with heap := h', toks := tk } := I1.kept fun b u e => k b u e
  have hc2 : c = (ddL ns).length := by
    rw [← hn, ← Array.length_toList, ← List.length_map (f := keyOf)]
    refine List.Perm.length_eq ((List.perm_ext_iff_of_nodup nd ddL_nodup).mpr fun j => ?_)
    rw [ddL_mem, ← hm3 j, decide_eq_true_eq]
  refine call_len_set ho hex hd hf (by unfold scanBound at hb; omega) ⟨.int ((ddL ns).length : Nat), H1, I2.tok _, ⟨_, by rw [hn, hc2]⟩, q1⟩
section
variable {Z : Zx} {st : L2.St} {H : Hp} {Q : VK} {a : ME}
theorem s_lenSet (h : tM Z (mLenSet a) st H Q) : tLenSetT Z.K (tM Z a) st H Q := by
  obtain ⟨io, s, h0, hR, hE, p⟩ := h
  refine ⟨io, s, h0, hR, hE, (PostR.bind (rel1 := DRel Z.K) p).imp fun x H1 hx => ?_⟩
  obtain ⟨io1, h1, d1, t1, R1, r1, p1⟩ := hx
  cases d1 with
  | tup ds =>
    dsimp only at p1
    split at p1
    · rename_i ns e
      split at p1
      · rename_i hl
        obtain ⟨q, xs, rfl, hs, rx⟩ := r1.tupInv
        cases intsOf_rel e rx
        exact ⟨q, ns, rfl, hs, hl, p1.here R1 (.int _)⟩
      · exact p1.elim
    · exact p1.elim
  | _ => exact p1.elim
theorem s_dict0 (h : tM Z mDict0 st H Q) : tDNewK st H Q := by
  obtain ⟨io, s, h0, hR, hE, p⟩ := h
  intro b hb
  have s : Step Z.K io H (io ++ [b]) (upd H b (.dK [])) := Step.grow hb (Step.put hb)
  refine p _ _ (io ++ [b]) s (hR.grow hb ⟨[], upd_same, .nil⟩) (.ref ?_)
  rw [← hR.len]
  simp
end
end
end PyI
-- PyP
/-! PyP: the mirror of an expression -/
namespace PyI
noncomputable section
open PySem PySem.Spec PyProof.Rows L2

inductive GV where
  | fn (i np : Nat) (sh : List (Nat × List Str × List Nat × List (Option Int))) | con (d : D)
structure C where
  N : List Str
  sc : Scope
  G : List (Str × GV)
  B : List Str
  F : Nat → List D → DH → Res D
  cw : Str → Bool
def ixOf (x : Str) : List Str → Nat → Option Nat
  | [], _ => none
  | y :: r, i => if y = x then some i else ixOf x r (i + 1)
def visK : Option NameKind → Bool
  | some .local | some .cell | some .free => true
  | _ => false
def slotOf (c : C) (x : Str) : Option Nat := if visK (c.sc.names.lookup x) && !(x == ("__debug__" : Str)) && !(x == ("__classdict__" : Str)) then ixOf x c.N 0 else none
def isGl (c : C) (x : Str) : Bool := decide (c.sc.names.lookup x = some .globalImplicit) && !(x == ("__debug__" : Str))
def isBl (c : C) (x : Str) : Bool := isGl c x && c.B.contains x && !(x == ("__name__" : Str))
def tgOk (c : C) (x : Str) : Bool := match c.sc.names.lookup x with
  | some .local => true
  | some .cell => c.cw x
  | _ => false
structure EvR where
  e : ME
  t : MT
  i : Bool → MI
def iNo : MI := fun _ _ => .no
def vt (m : ME) : EvR := ⟨m, mTru m, fun _ => iPlain m⟩
def bt (m : ME) : EvR := ⟨m, mB m, fun _ => iNo⟩
def evNo : EvR := ⟨mNo, tNo, fun _ => iNo⟩
def litOf : Const → Option D
  | .none => some .non
  | .bool b => some (.bl b)
  | .int i => some (.int i)
  | .str x => some (.str x)
  | _ => none
def tyName (x : Str) : Option String := if x = "int" then some "int" else if x = "bool" then some "bool" else if x = "str" then some "str" else if x = "list" then some "list" else if x = "tuple" then some "tuple" else if x = "dict" then some "dict" else none
def evName (c : C) (x : Str) : EvR := match slotOf c x with
  | some i => vt (mVar i)
  | none => match c.G.lookup x with
    | some (.con d) => if isGl c x then vt (mLit d) else evNo
    | some _ => evNo
    | none => if isBl c x then (match tyName x with
      | some n => vt (mLit (.ty n))
      | none => evNo) else evNo
def evCmp (E : Expr → EvR) (a : Expr) (ops : List CmpOp) (bs : List Expr) : EvR := match ops, bs with
  | [op], [b] => if behindInMarks op b then evNo else bt (mBin (opC op) (E a).e (E b).e)
  | [op, op'], [b, d] => if lastMarks [op, op'] [b, d] then evNo else bt (mChain (opC op) (opC op') (E a).e (E b).e (E d).e)
  | _, _ => evNo
def findSh : List (Nat × List Str × List Nat × List (Option Int)) → Nat → List Str → Option (List Nat × List (Option Int))
  | [], _, _ => none
  | (n, ks, pm) :: r, m, js => if n = m ∧ ks = js then some pm else findSh r m js
def dfM (o : Option Int) : ME := mLit (dfD o)
def mCallK (F : List D → DH → Res D) (np n m : Nat) (pm : List Nat) (l lk : List ME) : ME := fun s h => (mArgs l s h).bind fun xs h1 => (mArgs lk s h1).bind fun zs h2 => if xs.length = n ∧ zs.length = m then (match pickL pm (xs ++ zs) with
  | some ys => if ys.length = np then F ys h2 else .no
  | none => .no) else .no
def rgCall (c : C) : Expr → Option (List Expr)
  | .Call (.Name y _) as [] _ => if y = "range" ∧ isBl c y = true ∧ c.G.lookup y = none ∧ noStars as = true then some as else none
  | _ => none
/-- len(set(a)) -/
def setCall (c : C) : Expr → Option Expr
  | .Call (.Name y _) [a] [] _ => if y = "set" ∧ isBl c y = true ∧ c.G.lookup y = none ∧ noStars [a] = true then some a else none
  | _ => none
def evLen (c : C) (E : Expr → EvR) : List Expr → ME
  | [a] => match setCall c a with
    | some u => mLenSet (E u).e
    | none => mBlt .len [(E a).e]
  | _ => mNo
def evBltE (c : C) (E : Expr → EvR) (x : Str) (args : List Expr) : ME :=
  if x = "list" then (match args with
    | [a] => match rgCall c a with
      | some [u] => mLstRg [(E u).e]
      | some [u, v] => mLstRg [(E u).e, (E v).e]
      | some _ => mNo
      | none => mBlt .list [(E a).e]
    | _ => mNo)
  else if x = "tuple" then (match args with
    | [a] => match rgCall c a with
      | some [u] => mTupRg [(E u).e]
      | some [u, v] => mTupRg [(E u).e, (E v).e]
      | some _ => mNo
      | none => mBlt .tuple [(E a).e]
    | _ => mNo)
  else if x = "len" then evLen c E args
  else match bltOf x, args with
    | some b, _ :: _ => mBlt b (args.map fun a => (E a).e)
    | _, _ => mNo
def evBltI (c : C) (E : Expr → EvR) (x : Str) (args : List Expr) (tup : Bool) : MI :=
  if x = "range" then (match args with
    | [a] => iRange rngOf1 [(E a).e]
    | [a, b] => iRange rngOf2 [(E a).e, (E b).e]
    | [a, b, d] => iRange rngOf3 [(E a).e, (E b).e, (E d).e]
    | _ => iNo)
  else if x = "enumerate" then (match args, tup with
    | [a], true => iEnumM (E a).e
    | _, _ => iNo)
  else if x = "zip" then (match args, tup with
    | [a, b], true => iZipM (E a).e (E b).e
    | _, _ => iNo)
  else if x = "reversed" then (match args with
    | [a] => match rgCall c a with
      | some [u] => iRevRg [(E u).e]
      | some [u, v] => iRevRg [(E u).e, (E v).e]
      | some _ => iNo
      | none => iRevM (E a).e
    | _ => iNo)
  else iPlain (evBltE c E x args)
def conTup (c : C) : Expr → Option (List D)
  | .Name x _ => match c.G.lookup x with
    | some (.con (.tup ds)) => if isGl c x then some ds else none
    | _ => none
  | _ => none
/-- KINDS.index(x), KINDS a tuple of the text -/
def tupIx (c : C) (o : Expr) (nm : Str) (args : List Expr) : Option (List D × Expr) :=
  if nm = "index" then (match conTup c o, args with
    | some ds, [a] => some (ds, a)
    | _, _ => none) else none
def mTupIx (ds : List D) (a : ME) : ME := fun s h => (a s h).bind fun y h1 => if flatD y && ds.all flatD then retD ((idxF y ds).map fun k => .int (k : Nat)) h1 else .no
def isKeyLen (c : C) : List Keyword → Bool
  | [⟨some k, .Name y _, _⟩] => decide (k = "key" ∧ y = "len" ∧ isBl c "len" = true)
  | _ => false
def evCall (c : C) (E : Expr → EvR) (f : Expr) (args : List Expr) (kws : List Keyword) (p : Pos) : EvR :=
  if noStars args then (match f with
    | .Name x _ => match c.G.lookup x with
      | some (.fn i np sh) => if isGl c x then (match kwNames kws with
        | some ks => match findSh sh args.length ks with
          | some pm => vt (mCallK (c.F i) np args.length (ks.length + pm.2.length) pm.1 (args.map fun a => (E a).e) ((kws.map fun k => (E k.value).e) ++ pm.2.map dfM))
          | none => evNo
        | none => evNo) else evNo
      | some (.con _) => evNo
      | none => if isBl c x then (match kws with
        | [] => ⟨evBltE c E x args, mTru (evBltE c E x args), evBltI c E x args⟩
        | k :: ks => if x = "sorted" ∧ isKeyLen c (k :: ks) = true then (match args with
          | [a] => vt (mSortLen (E a).e)
          | _ => evNo) else evNo) else evNo
    | .Attribute o nm apos => match kws with
      | [] => if plainBase o && decide (args.length < 29) && (apos.endLine == p.line) then (match tupIx c o nm args with
        | some (ds, a) => vt (mTupIx ds (E a).e)
        | none => vt (mMeth nm (E o).e (args.map fun a => (E a).e))) else evNo
      | _ :: _ => evNo
    | _ => evNo) else evNo
def evPart (E : Expr → EvR) : Option Expr → MO
  | none => oNone
  | some e => mPart (E e).e
def isRevSl : Option Expr → Option Expr → Expr → Bool
  | none, none, .UnaryOp .USub (.Constant (.int 1) _ _) _ => true
  | _, _, _ => false
def evSub (E : Expr → EvR) (a sl : Expr) : EvR := match sl with
  | .Slice lo hi none _ => vt (mSl (E a).e (evPart E lo) (evPart E hi))
  | .Slice lo hi (some st) _ => if isRevSl lo hi st then vt (mRev (E a).e) else evNo
  | b => vt (mBin opI (E a).e (E b).e)
def isTup : Expr → Bool
  | .Tuple _ _ _ => true
  | _ => false
def isSliceE : Expr → Bool
  | .Slice _ _ _ _ => true
  | _ => false
def isSetE : Expr → Bool
  | .Set _ _ _ => true
  | _ => false
def ownOf (N : List Str) : List (Str × NameKind) → List (Str × Nat)
  | [] => []
  | (n, k) :: r => if k = .local ∨ k = .cell then (match ixOf n N 0 with
    | some i => (n, i) :: ownOf N r
    | none => ownOf N r) else ownOf N r
def C.blk (c : C) (scope : Scope) : C := { c with sc := relS scope c.sc, cw := fun x => scope.names.lookup x == some .cell }
def evTests (E : Expr → EvR) : List Expr → MT
  | [] => tYesM
  | [t] => (E t).t
  | _ => tNo
def mapO {α β : Type} (f : α → Option β) : List α → Option (List β)
  | [] => some []
  | a :: r => (f a).bind fun b => (mapO f r).map fun bs => b :: bs
/-- names, the last one starred -/
def starLast : List Expr → Option (List Expr)
  | [] => none
  | [e] => match e with
    | .Starred t _ => if isStar t then none else some [t]
    | _ => none
  | e :: r => if isStar e then none else (starLast r).map fun es => e :: es
/-- targets -/
def evG (E : Expr → EvR) (c : C) (o : Option (List Nat)) : Nat → Expr → Option MG
  | 0, _ => none
  | n + 1, e => match e with
    | .Name x _ => if tgOk c x then (ixOf x c.N 0).bind fun i => if keptI o i then some (gNm i) else none else none
    | .Tuple es _ _ => if noStars es then (mapO (evG E c o n) es).map gTp else (starLast es).bind fun es' => (mapO (evG E c o n) es').map gStM
    | .Subscript a b _ => if isSliceE b then none else some (gSubM (E a).e (E b).e)
    | _ => none
def evLc (E : Expr → EvR) (E' : Expr → EvR) (c : C) (elt : Expr) (gens : List Comprehension) (scope : Scope) : EvR := match gens with
  | [⟨tg, iter, ifs, a⟩] => if a = 0 ∧ isSetE iter = false ∧ blkC c.N c.sc scope (ownOf c.N scope.names) = true then
      (match evG E' (c.blk scope) (some ((ownOf c.N scope.names).map (·.2))) 9 tg with
      | some g => vt (mLc ((E iter).i (isTup tg)) g (evTests E' ifs) (E' elt).e ((ownOf c.N scope.names).map (·.2)))
      | none => evNo) else evNo
  | _ => evNo
def ev : Nat → C → Expr → EvR
  | 0, _, _ => evNo
  | n + 1, c, e => match e with
    | .Constant k _ _ => match litOf k with
      | some d => vt (mLit d)
      | none => evNo
    | .Name x _ => evName c x
    | .BinOp a op b _ => vt (mBin (opB op) (ev n c a).e (ev n c b).e)
    | .UnaryOp op a _ => match op with
      | .USub => vt (mNeg (ev n c a).e)
      | .Not => ⟨mNotE (ev n c a).e, mNotT (ev n c a).t, fun _ => iNo⟩
      | _ => evNo
    | .BoolOp op vs _ => match op with
      | .And => ⟨mAndE (vs.map fun v => (ev n c v).e), mAndT (vs.map fun v => (ev n c v).t), fun _ => iNo⟩
      | .Or => ⟨mOrE (vs.map fun v => (ev n c v).e), mOrT (vs.map fun v => (ev n c v).t), fun _ => iNo⟩
    | .IfExp t a b _ => ⟨mIf (ev n c t).t (ev n c a).e (ev n c b).e, tNo, fun _ => iPlain (mIf (ev n c t).t (ev n c a).e (ev n c b).e)⟩
    | .Compare a ops bs _ => evCmp (ev n c) a ops bs
    | .Call f args kws p => evCall c (ev n c) f args kws p
    | .Subscript a sl _ => evSub (ev n c) a sl
    | .List es _ => if noStars es then vt (mLst (es.map fun v => (ev n c v).e)) else evNo
    | .Tuple es _ _ => if noStars es then vt (mTup (es.map fun v => (ev n c v).e)) else evNo
    | .Dict [] [] _ => vt mDict0
    | .ListComp elt gens scope _ => evLc (ev n c) (ev n (c.blk scope)) c elt gens scope
    | _ => evNo

/-! ### what the context is to be -/
/-- a tuple of the text -/
def SqK (K : PySem.W.Frag) (a : Addr) (ys : List V) : Prop := ∃ (o : Obj) (its : Array Value) (n : Nat), K.lookup a = some o ∧ o.cls = .type "tuple" ∧ o.dict = none ∧ o.data = .seq its n ∧ its.size ≤ sizeLine ∧ Vals ys its.toList
def ConOk (K : PySem.W.Frag) (u : Value) (d : D) : Prop := (∃ v, RelV v u ∧ ∀ io H, DRel K io H v d) ∧ ∀ L, d = .tup L → ∃ a ys, u = .ref a ∧ SqK K a ys ∧ ∀ io H, DRels K io H ys L
structure Good (X : Cx) (Z : Zx) (lv : Nat) (c : C) : Prop where
  K : Z.K = X.K
  N : X.N = c.N
  nd : c.N.Nodup
  sc : X.env.scope = c.sc
  kd : c.sc.kind = .function
  calm : X.calm = true
  gd : X.A.guards = some []
  room : Room lv X.A
  tk : Takes X Z.W
  cw : ∀ x, c.cw x = true → X.fn x = true
  blt : ∀ x, c.B.contains x = true → X.mg x = none
  con : ∀ x d, c.G.lookup x = some (.con d) → ∃ u, X.mg x = some u ∧ ConOk X.K u d
  fn : ∀ x i np sh, c.G.lookup x = some (.fn i np sh) → ∃ f fd ps, ps.length = np ∧ X.mg x = some (.ref f) ∧ PySem.W.keepIn X.K (.ref f) = true ∧ FnG X.prog X.w X.K X.mg X.base (L2.CX X.prog X.w) lv f fd ps (spM X.K Z.Cs np (c.F i)) ∧
    ∀ n ks pm, findSh sh n ks = some pm → BindK X.K fd ps n ks pm.1 pm.2
section
variable {X : Cx} {Z : Zx} {lv : Nat} {c : C}
theorem Good.un (g : Good X Z lv c) : X.A.units + 66 < cLine := by
  have := g.room.un
  omega
theorem Good.blk (g : Good X Z lv c) {s : Shared} {H : Hp} {L : Addr} {cl : List (Str × Addr)} {fp : List Addr} {scope : Scope} (hk : scope.kind = .function) : Good (X.blk s H scope (compEnvC scope cl L X.env) fp) Z.quiet lv (c.blk scope) where
  K := g.K
  N := g.N
  nd := g.nd
  sc := by
    show relS scope X.env.scope = relS scope c.sc
    rw [g.sc]
  kd := hk
  calm := g.calm
  gd := g.gd
  room := g.room
  tk := takes0
  cw := fun x h => h
  blt := g.blt
  con := g.con
  fn := fun x i np sh h => g.fn x i np sh h
theorem ixOf_ok {x : Str} : ∀ {l : List Str} {k i : Nat}, ixOf x l k = some i → k ≤ i ∧ l[i - k]? = some x
  | y :: r, k, i, h => by
    unfold ixOf at h
    split at h
    · rename_i e
      cases h
      exact ⟨Nat.le_refl _, by simp [e]⟩
    · obtain ⟨h1, h2⟩ := ixOf_ok h
      refine ⟨by omega, ?_⟩
      have : i - k = (i - (k + 1)) + 1 := by omega
      rw [this]
      simpa using h2
theorem ixOf_get {x : Str} {l : List Str} {i : Nat} (h : ixOf x l 0 = some i) : l[i]? = some x := by
  have := (ixOf_ok h).2
  simpa using this
end
end
end PyI
-- PyQ
/-! PyQ: the mirror of an expression tells the truth -/
namespace PyI
open PySem PySem.Spec PyProof.Rows L2

theorem _root_.L2.PE.weak {X : Cx} {e : Expr} {t t' : TE} (h : PE X e t) (w : ∀ st H Q, t' st H Q → t st H Q) : PE X e t' := PyI.PE.weak h w
theorem _root_.L2.PT.weak {X : Cx} {e : Expr} {t t' : TT} (h : PT X e t) (w : ∀ st H Q, t' st H Q → t st H Q) : PT X e t' := PyI.PT.weak h w
theorem _root_.L2.PA.weak {X : Cx} {e : List Expr} {t t' : TA} (h : PA X e t) (w : ∀ st H Q, t' st H Q → t st H Q) : PA X e t' := PyI.PA.weak h w
theorem _root_.L2.PS.weak {X : Cx} {e : Stmt} {t t' : TS} (h : PS X e t) (w : ∀ E st H, t' E st H → t E st H) : PS X e t' := PyI.PS.weak h w
theorem _root_.L2.PSs.weak {X : Cx} {e : List Stmt} {t t' : TS} (h : PSs X e t) (w : ∀ E st H, t' E st H → t E st H) : PSs X e t' := PyI.PSs.weak h w
theorem _root_.L2.PI.weak {X : Cx} {tg e : Expr} {t t' : TI} (h : PI X tg e t) (w : ∀ st H Q, t' st H Q → t st H Q) : PI X tg e t' := ⟨fun pins s st H Q I q => h.run pins s st H Q I (w st H Q q)⟩
theorem _root_.L2.PG.weak {X : Cx} {tg : Expr} {t t' : TG} (h : PG X tg t) (w : ∀ v st H Q, t' v st H Q → t v st H Q) : PG X tg t' := ⟨fun pins s st H v u Q I r q => h.run pins s st H v u Q I r (w v st H Q q)⟩
theorem _root_.L2.PGs.weak {X : Cx} {tg : List Expr} {t t' : TGs} (h : PGs X tg t) (w : ∀ v st H Q, t' v st H Q → t v st H Q) : PGs X tg t' := ⟨fun pins s st H v u Q I r q => h.run pins s st H v u Q I r (w v st H Q q)⟩
theorem _root_.L2.PK.weak {X : Cx} {kws : List Keyword} {t t' : TA} (h : PK X kws t) (w : ∀ st H Q, t' st H Q → t st H Q) : PK X kws t' := ⟨fun pos pins s st H Q I q => h.run pos pins s st H Q I (w st H Q q)⟩
theorem _root_.L2.PTs.weak {X : Cx} {e : List Expr} {t t' : TT} (h : PTs X e t) (w : ∀ st H Q, t' st H Q → t st H Q) : PTs X e t' := ⟨fun pins s st H Q I q => h.run pins s st H Q I (w st H Q q)⟩
theorem _root_.L2.PW.weak {X : Cx} {e : Expr} {t t' : TT} (h : PW X e t) (w : ∀ st H Q, t' st H Q → t st H Q) : PW X e t' := ⟨fun wh pins s st H Q I q => h.run wh pins s st H Q I (w st H Q q)⟩
structure OkE (X : Cx) (Z : Zx) (r : EvR) (u : Expr) : Prop where
  e : PE X u (tM Z r.e)
  t : PT X u (tMT Z r.t)
  i : ∀ tg, PI X tg u (tMI Z (r.i (isTup tg)))
section
variable {X : Cx} {Z : Zx} {lv : Nat} {c : C} {e : Expr}
theorem noE {st : L2.St} {H : Hp} {Q : VK} (h : tM Z mNo st H Q) : False := let ⟨_, _, _, _, _, p⟩ := h; p
theorem noT {st : L2.St} {H : Hp} {Q : Bool → Hp → Prop} (h : tMT Z tNo st H Q) : False := let ⟨_, _, _, _, _, p⟩ := h; p
theorem noI {st : L2.St} {H : Hp} {Q : It → Hp → Prop} (h : tMI Z iNo st H Q) : False := let ⟨_, _, _, _, _, p⟩ := h; p
theorem pe_no : PE X e (tM Z mNo) := ⟨fun _ _ _ _ _ _ h => (noE h).elim⟩
theorem pt_no : PT X e (tMT Z tNo) := ⟨fun _ _ _ _ _ _ h => (noT h).elim⟩
theorem pi_no {tg : Expr} : PI X tg e (tMI Z iNo) := ⟨fun _ _ _ _ _ _ h => (noI h).elim⟩
theorem ok_no : OkE X Z evNo e := ⟨pe_no, pt_no, fun _ => pi_no⟩
def plainT : Expr → Bool
  | .UnaryOp .Not _ _ | .BoolOp _ _ _ | .IfExp _ _ _ _ | .Compare _ _ _ _ => false
  | _ => true
theorem plainT_ok {env : Env} (h : plainT e = true) : ∀ whole, isTrue e env whole = (do let v ← whole; standAt e.pos; holding [v] (truthy v)) := by
  cases e with
  | UnaryOp op a p => cases op <;> first | (intro _; rfl) | cases h
  | BoolOp => cases h
  | IfExp => cases h
  | Compare => cases h
  | _ => intro _; rfl
theorem ok_pt (hK : Z.K = X.K) {m : ME} (h : PE X e (tM Z m)) (he : plainT e = true) : PT X e (tMT Z (mTru m)) := by
  refine (pt_truth h (plainT_ok he)).weak fun st H Q q => ?_
  rw [← hK]
  exact s_mTru q
theorem ok_pi (hK : Z.K = X.K) {m : ME} (h : PE X e (tM Z m)) (tg : Expr) : PI X tg e (tMI Z (iPlain m)) := by
  refine (pi_any h).weak fun st H Q q => ?_
  rw [← hK]
  exact s_iPlain q
theorem ok_vt (hK : Z.K = X.K) {m : ME} (h : PE X e (tM Z m)) (he : plainT e = true) : OkE X Z (vt m) e := ⟨h, ok_pt hK h he, fun tg => ok_pi hK h tg⟩
theorem ok_lit (hK : Z.K = X.K) {d : D} {v : V} (h : PE X e (tC v)) (r : ∀ io H, DRel Z.K io H v d) (he : plainT e = true) : OkE X Z (vt (mLit d)) e :=
  ok_vt hK (h.weak fun st H Q q => s_lit q fun io => r io H) he
theorem visK_ok {sc : Scope} {x : Str} (h : visK (sc.names.lookup x) = true) : Vis sc x := by
  unfold visK at h
  split at h
  · rename_i e; exact .inl e
  · rename_i e; exact .inr (.inl e)
  · rename_i e; exact .inr (.inr e)
  · cases h
theorem Good.gl (g : Good X Z lv c) {x : Str} (h : isGl c x = true) : Gl X x ∧ (x == ("__debug__" : Str)) = false := by
  unfold isGl at h
  simp only [Bool.and_eq_true, decide_eq_true_eq, Bool.not_eq_true'] at h
  refine ⟨?_, h.2⟩
  show X.env.scope.names.lookup x = _
  rw [g.sc]
  exact h.1
theorem Good.bl (g : Good X Z lv c) {x : Str} (h : isBl c x = true) : Gl X x ∧ X.mg x = none ∧ (x == ("__debug__" : Str)) = false ∧ x ≠ "__name__" := by
  unfold isBl at h
  simp only [Bool.and_eq_true, Bool.not_eq_true'] at h
  obtain ⟨⟨h1, h2⟩, h3⟩ := h
  obtain ⟨a, b⟩ := g.gl h1
  exact ⟨a, g.blt x h2, b, by simpa using h3⟩
theorem iteInv {α : Type} {p : Prop} [Decidable p] {a d : α} {b : Option α} (h : (if p then some a else b) = some d) : (p ∧ a = d) ∨ b = some d := by
  by_cases hp : p
  · rw [if_pos hp] at h
    exact .inl ⟨hp, Option.some.inj h⟩
  · rw [if_neg hp] at h
    exact .inr h
theorem tyName_ok {x : Str} {n : String} (h : tyName x = some n) : bootBuiltins x = some (.type n) := by
  unfold tyName at h
  iterate 6
    rcases iteInv h with ⟨e, e2⟩ | h
    · subst e e2; rfl
  cases h
theorem ok_name (g : Good X Z lv c) {x : Str} {p : Pos} : OkE X Z (evName c x) (.Name x p) := by
  unfold evName
  split
  · rename_i i hs
    unfold slotOf at hs
    split at hs
    · rename_i hv
      simp only [Bool.and_eq_true, Bool.not_eq_true'] at hv
      refine ok_vt g.K ((pe_var (i := i) ?_ ?_ hv.1.2 hv.2).weak fun st H Q q => s_var q) rfl
      · rw [g.N]; exact ixOf_get hs
      · rw [g.sc]; exact visK_ok hv.1.1
    · cases hs
  · split
    · rename_i d hd
      split
      · rename_i hg
        obtain ⟨a, b⟩ := g.gl hg
        obtain ⟨u, h1, ⟨v, h2, h3⟩, _⟩ := g.con _ _ hd
        exact ok_lit g.K (pe_glob a h1 h2 b) (fun io H => by rw [g.K]; exact h3 io H) rfl
      · exact ok_no
    · exact ok_no
    · split
      · rename_i hb
        obtain ⟨a, b, d, e⟩ := g.bl hb
        split
        · rename_i n hn
          exact ok_lit g.K (pe_bltn (v := .ty n) a b (tyName_ok hn) rfl e d) (fun _ _ => .ty n) rfl
        · exact ok_no
      · exact ok_no
theorem ok_args {E : Expr → EvR} : ∀ {es : List Expr}, noStars es = true → (∀ e ∈ es, OkE X Z (E e) e) → PA X es (tMA Z (mArgs (es.map fun a => (E a).e)))
  | [], _, _ => pa_nil.weak fun st H Q q => s_nil q
  | e :: es, hs, h => by
    have h0 : isStar e = false ∧ noStars es = true := by
      unfold noStars at hs ⊢
      rw [List.all_cons, Bool.and_eq_true] at hs
      exact ⟨by simpa using hs.1, hs.2⟩
    exact (pa_cons (h e List.mem_cons_self).e (ok_args h0.2 fun a ha => h a (List.mem_cons_of_mem _ ha)) (starEach_cons h0.1)).weak fun st H Q q => s_cons q
theorem ok_kws {E : Expr → EvR} : ∀ {kws : List Keyword}, (∀ k ∈ kws, OkE X Z (E k.value) k.value) → PK X kws (tMA Z (mArgs (kws.map fun k => (E k.value).e)))
  | [], _ => pk_nil.weak fun st H Q q => s_nil q
  | ⟨n, v, p⟩ :: r, h => (pk_cons (h _ List.mem_cons_self).e (ok_kws fun k hk => h k (List.mem_cons_of_mem _ hk))).weak fun st H Q q => s_cons q
theorem ok_and {E : Expr → EvR} {pos : Pos} : ∀ {vs : List Expr}, (∀ e ∈ vs, OkE X Z (E e) e) → PE X (.BoolOp .And vs pos) (tM Z (mAndE (vs.map fun v => (E v).e)))
  | [], _ => pe_no
  | [a], h => pe_one (h a (by simp)).e
  | a :: b :: r, h => (pe_and (h a (by simp)).e (ok_and (vs := b :: r) fun e he => h e (List.mem_cons_of_mem _ he))).weak fun st H Q q => s_andE q
theorem ok_or {E : Expr → EvR} {pos : Pos} : ∀ {vs : List Expr}, (∀ e ∈ vs, OkE X Z (E e) e) → PE X (.BoolOp .Or vs pos) (tM Z (mOrE (vs.map fun v => (E v).e)))
  | [], _ => pe_no
  | [a], h => pe_one (h a (by simp)).e
  | a :: b :: r, h => (pe_or (h a (by simp)).e (ok_or (vs := b :: r) fun e he => h e (List.mem_cons_of_mem _ he))).weak fun st H Q q => s_orE q
theorem ok_andT {E : Expr → EvR} {pos : Pos} : ∀ {vs : List Expr}, (∀ e ∈ vs, OkE X Z (E e) e) → PW X (.BoolOp .And vs pos) (tMT Z (mAndT (vs.map fun v => (E v).t)))
  | [], _ => ⟨fun _ _ _ _ _ _ _ h => (noT h).elim⟩
  | [a], h => pw_and1 (h a (by simp)).t
  | a :: b :: r, h => (pw_and (h a (by simp)).t (ok_andT (vs := b :: r) fun e he => h e (List.mem_cons_of_mem _ he))).weak fun st H Q q => s_andT q
theorem ok_orT {E : Expr → EvR} {pos : Pos} : ∀ {vs : List Expr}, (∀ e ∈ vs, OkE X Z (E e) e) → PW X (.BoolOp .Or vs pos) (tMT Z (mOrT (vs.map fun v => (E v).t)))
  | [], _ => ⟨fun _ _ _ _ _ _ _ h => (noT h).elim⟩
  | [a], h => pw_or1 (h a (by simp)).t
  | a :: b :: r, h => (pw_or (h a (by simp)).t (ok_orT (vs := b :: r) fun e he => h e (List.mem_cons_of_mem _ he))).weak fun st H Q q => s_orT q
theorem ok_cmp (g : Good X Z lv c) {E : Expr → EvR} (hE : ∀ e, OkE X Z (E e) e) {a : Expr} {ops : List CmpOp} {bs : List Expr} {p : Pos} : OkE X Z (evCmp E a ops bs) (.Compare a ops bs p) := by
  have hu : X.A.units + 65 < cLine := by have := g.un; omega
  unfold evCmp
  split
  · rename_i op b
    split
    · exact ok_no
    · rename_i hb
      have hb : behindInMarks op b = false := by simpa using hb
      obtain ⟨r, h1, h2⟩ := opC_ok X Z g.K hu op
      exact ⟨(pe_cmpR h1 (hE a).e (hE b).e hb).weak fun st H Q q => s_bin h2 q, (pt_cmpR h1 (hE a).e (hE b).e hb).weak fun st H Q q => s_bin h2 (s_mB q), fun _ => pi_no⟩
  · rename_i op op' b d
    split
    · exact ok_no
    · rename_i hb
      have hb : lastMarks [op, op'] [b, d] = false := by simpa using hb
      obtain ⟨r, h1, h2⟩ := opC_ok X Z g.K hu op
      obtain ⟨r', h1', h2'⟩ := opC_ok X Z g.K hu op'
      exact ⟨(pe_chain h1 h1' (hE a).e (hE b).e (hE d).e hb).weak fun st H Q q => s_chain h2 h2' q, (pt_chain h1 h1' (hE a).e (hE b).e (hE d).e hb).weak fun st H Q q => s_chain h2 h2' (s_mB q), fun _ => pi_no⟩
  · exact ok_no
theorem args_df {l : List ME} {s : DS} : ∀ {lk : List ME} {h : DH} {dl : List (Option Int)}, mArgs (lk ++ dl.map dfM) s h = (mArgs lk s h).bind fun zs h2 => .ok (zs ++ dl.map dfD) h2
  | [], h, [] => rfl
  | [], h, o :: dl => by
    have e := args_df (l := l) (s := s) (lk := []) (h := h) (dl := dl)
    rw [List.nil_append] at e
    show (Res.ok (dfD o) h).bind (fun x h1 => (mArgs (dl.map dfM) s h1).bind fun xs h2 => .ok (x :: xs) h2) = _
    rw [bind_ok, e]
    rfl
  | a :: lk, h, dl => by
    show (a s h).bind (fun x h1 => (mArgs (lk ++ dl.map dfM) s h1).bind fun xs h2 => .ok (x :: xs) h2) = ((a s h).bind fun x h1 => (mArgs lk s h1).bind fun xs h2 => .ok (x :: xs) h2).bind fun zs h2 => .ok (zs ++ dl.map dfD) h2
    cases a s h with
    | ok x h1 =>
      rw [bind_ok, bind_ok, args_df (l := l)]
      cases mArgs lk s h1 <;> rfl
    | exc x h1 => rfl
    | no => rfl
theorem res_okb {α β γ : Type} {x : Res α} {f : α → β} {g : β → DH → Res γ} : (x.bind fun a h => .ok (f a) h).bind g = x.bind fun a h => g (f a) h := by cases x <;> rfl
theorem s_callG {F : List D → DH → Res D} {np n m : Nat} {pm : List Nat} {dl : List (Option Int)} {l lk : List ME} {st : L2.St} {H : Hp} {Q : VK} (h : tM Z (mCallK F np n (m + dl.length) pm l (lk ++ dl.map dfM)) st H Q) :
    tCallG (spM Z.K Z.Cs np F) pm dl n m (WE Z.W) (tMA Z (mArgs l)) (tMA Z (mArgs lk)) st H Q := by
  obtain ⟨io, s, h0, hR, hE, p⟩ := h
  refine ⟨io, s, h0, hR, hE, (PostR.bind (rel1 := DRels Z.K) p).imp fun xs H1 hx => ?_⟩
  obtain ⟨io1, h1, d1, t1, R1, r1, p1⟩ := hx
  rw [args_df (l := l), res_okb] at p1
  refine ⟨io1, s, h1, R1, hE.mono t1, (PostR.bind (rel1 := DRels Z.K) p1).imp fun zs H2 hz => ?_⟩
  obtain ⟨io2, h2, d2, t2, R2, r2, p2⟩ := hz
  split at p2
  · rename_i hl
    rw [← List.append_assoc] at p2
    split at p2
    · rename_i ys e
      split at p2
      · rename_i hn
        obtain ⟨vs, e1, rv⟩ := pick_rel (((r1.mono t2).append r2).append (df_rel dl)) e
        refine ⟨by rw [r1.length]; exact hl.1, by have := hl.2; rw [List.length_append, List.length_map] at this; rw [r2.length]; omega, vs, e1, io2, ys, h2, R2, rv, by rw [rv.length]; exact hn, ?_⟩
        cases q : F ys h2 with
        | ok d h3 => rw [q] at p2; exact p2
        | exc x h3 => rw [q] at p2; exact p2
        | no => rw [q] at p2; exact p2
      · exact p2.elim
    · exact p2.elim
  · exact p2.elim
theorem boot_of {x : Str} {b : Blt} (h : bltOf x = some b) : bootBuiltins x = some (bltV b) := by
  unfold bltOf at h
  iterate 15
    rcases iteInv h with ⟨e, e2⟩ | h
    · subst e e2; rfl
  cases h
theorem pe_blt (g : Good X Z lv c) {E : Expr → EvR} (hE : ∀ e, OkE X Z (E e) e) {x : Str} {b : Blt} {a : Expr} {r : List Expr} {p pos : Pos} (hb : isBl c x = true) (hx : bltOf x = some b) (hs : noStars (a :: r) = true) :
    PE X (.Call (.Name x p) (a :: r) [] pos) (tM Z (mBlt b ((a :: r).map fun u => (E u).e))) := by
  obtain ⟨h1, h2, h3, h4⟩ := g.bl hb
  obtain ⟨R, c1, c2⟩ := bltF_ok X Z g.K g.calm g.gd g.un b
  have h0 : isStar a = false := by
    unfold noStars at hs
    rw [List.all_cons, Bool.and_eq_true] at hs
    simpa using hs.1
  have hr : noStars r = true := by
    unfold noStars at hs ⊢
    rw [List.all_cons, Bool.and_eq_true] at hs
    exact hs.2
  have ha := ok_args (X := X) (Z := Z) (E := E) hs fun e _ => hE e
  have hv := boot_of hx
  have nt := (noStars_trees (env := X.env) (pos := pos) hr).1
  refine PE.weak (t := tCB R (tMA Z (mArgs ((a :: r).map fun u => (E u).e)))) ?_ fun st H Q q => s_blt c2 q
  cases b <;> first
    | exact pe_callB c1 h1 h2 hv ha h4 h3 (starEach_cons h0) nt
    | exact pe_callTy c1 h1 h2 hv ha h4 h3 (starEach_cons h0) nt
end
end PyI
-- PyR
/-! PyR: .. calls, subscripts, comprehensions, targets; the whole -/
namespace PyI
open PySem PySem.Spec PyProof.Rows L2
section
variable {X : Cx} {Z : Zx} {lv : Nat} {c : C} {e : Expr} {E : Expr → EvR}
theorem noStars_cons {a : Expr} {r : List Expr} (hs : noStars (a :: r) = true) : isStar a = false ∧ noStars r = true := by
  unfold noStars at hs ⊢
  rw [List.all_cons, Bool.and_eq_true] at hs
  exact ⟨by simpa using hs.1, hs.2⟩
theorem rgCall_ok {a : Expr} {l : List Expr} (h : rgCall c a = some l) : ∃ y p q, a = .Call (.Name y p) l [] q ∧ y = "range" ∧ isBl c y = true ∧ noStars l = true := by
  unfold rgCall at h
  split at h
  · rename_i y p as q
    split at h
    · rename_i hh
      cases h
      exact ⟨y, p, q, rfl, hh.1, hh.2.1, hh.2.2.2⟩
    · cases h
  · cases h
theorem prg1 (g : Good X Z lv c) (hE : ∀ e, OkE X Z (E e) e) {a u : Expr} (h : rgCall c a = some [u]) : PRg X a (tRg1 (tM Z (E u).e)) := by
  obtain ⟨y, p, q, rfl, rfl, hb, hs⟩ := rgCall_ok h
  obtain ⟨h1, h2, h3, h4⟩ := g.bl hb
  exact prg_1 h1 h2 (hE u).e (starEach_cons (noStars_cons hs).1)
theorem prg2 (g : Good X Z lv c) (hE : ∀ e, OkE X Z (E e) e) {a u v : Expr} (h : rgCall c a = some [u, v]) : PRg X a (tRg2 (tM Z (E u).e) (tM Z (E v).e)) := by
  obtain ⟨y, p, q, rfl, rfl, hb, hs⟩ := rgCall_ok h
  obtain ⟨h1, h2, h3, h4⟩ := g.bl hb
  have hs2 := (noStars_cons hs).2
  exact prg_2 h1 h2 (hE u).e (hE v).e (starEach_cons (noStars_cons hs).1) (starEach_cons (noStars_cons hs2).1) (noStars_trees hs2).1
theorem setCall_ok {c : C} {a u : Expr} (h : setCall c a = some u) : ∃ p q, a = .Call (.Name "set" p) [u] [] q ∧ isBl c "set" = true ∧ noStars [u] = true := by
  unfold setCall at h
  split at h
  · rename_i y p u' q
    split at h
    · rename_i hh
      cases h
      obtain ⟨rfl, h1, _, h2⟩ := hh
      exact ⟨p, q, rfl, h1, h2⟩
    · cases h
  · cases h
theorem ok_bltE (g : Good X Z lv c) (hE : ∀ e, OkE X Z (E e) e) {x : Str} {args : List Expr} {p pos : Pos} (hb : isBl c x = true) (hs : noStars args = true) :
    PE X (.Call (.Name x p) args [] pos) (tM Z (evBltE c E x args)) := by
  obtain ⟨h1, h2, h3, h4⟩ := g.bl hb
  unfold evBltE
  split
  · rename_i ex
    subst ex
    split
    · rename_i a
      have h0 := starEach_cons (es := []) (env := X.env) (noStars_cons hs).1
      split
      · rename_i u hu
        exact (pe_listRg g.calm h1 h2 (prg1 g hE hu) h0).weak fun st H Q q => s_lstRg1 q
      · rename_i u v hu
        exact (pe_listRg g.calm h1 h2 (prg2 g hE hu) h0).weak fun st H Q q => s_lstRg2 q
      · exact pe_no
      · exact pe_blt g hE hb rfl hs
    · exact pe_no
  · split
    · rename_i ex
      subst ex
      split
      · rename_i a
        have h0 := starEach_cons (es := []) (env := X.env) (noStars_cons hs).1
        split
        · rename_i u hu
          exact (pe_tupRg g.calm h1 h2 (prg1 g hE hu) h0).weak fun st H Q q => s_tupRg1 q
        · rename_i u v hu
          exact (pe_tupRg g.calm h1 h2 (prg2 g hE hu) h0).weak fun st H Q q => s_tupRg2 q
        · exact pe_no
        · exact pe_blt g hE hb rfl hs
      · exact pe_no
    · split
      · rename_i ex
        subst ex
        unfold evLen
        split
        · rename_i a
          split
          · rename_i u hu
            obtain ⟨p2, q, rfl, hb2, hs2⟩ := setCall_ok hu
            obtain ⟨h3, h4, _⟩ := g.bl hb2
            have h0 := starEach_cons (es := []) (env := X.env) (noStars_cons hs2).1
            exact (pe_lenSetT g.calm h1 h2 h3 h4 (hE u).e h0).weak fun st H Q q => (by rw [← g.K]; exact s_lenSet q)
          · exact pe_blt g hE hb rfl hs
        · exact pe_no
      · split
        · rename_i b a r hx
          exact pe_blt g hE hb hx hs
        · exact pe_no
theorem isTup_ok {tg : Expr} (h : isTup tg = true) : ∃ es k p, tg = .Tuple es k p := by
  unfold isTup at h
  split at h
  · exact ⟨_, _, _, rfl⟩
  · cases h
theorem ok_bltI (g : Good X Z lv c) (hE : ∀ e, OkE X Z (E e) e) {x : Str} {args : List Expr} {p pos : Pos} {tg : Expr} (hb : isBl c x = true) (hs : noStars args = true) :
    PI X tg (.Call (.Name x p) args [] pos) (tMI Z (evBltI c E x args (isTup tg))) := by
  obtain ⟨h1, h2, h3, h4⟩ := g.bl hb
  have ha := ok_args (X := X) (Z := Z) (E := E) hs fun e _ => hE e
  unfold evBltI
  split
  · rename_i ex
    subst ex
    split
    · rename_i a
      exact (pi_range1 h1 h2 ha (starEach_cons (noStars_cons hs).1)).weak fun st H Q q => s_range1 q
    · rename_i a b
      have hs2 := (noStars_cons hs).2
      have e2 := starEach_cons (es := []) (env := X.env) (noStars_cons hs2).1
      have e1 := starEach_cons (es := [b]) (env := X.env) (noStars_cons hs).1
      refine (pi_range2 h1 h2 ha ?_ e2).weak fun st H Q q => s_range2 q
      rw [e1, e2]
      rfl
    · rename_i a b d
      have hs2 := (noStars_cons hs).2
      exact (pi_range3 h1 h2 ha (starEach_cons (noStars_cons hs).1) (noStars_trees hs2).1).weak fun st H Q q => s_range3 q
    · exact pi_no
  · split
    · rename_i ex
      subst ex
      split
      · rename_i a ht
        obtain ⟨es, k, tp, rfl⟩ := isTup_ok ht
        have e1 := starEach_cons (es := []) (env := X.env) (noStars_cons hs).1
        refine (pi_enumA h1 h2 (pa_cons (hE a).e pa_nil e1) e1).weak fun st H Q q => ?_
        rw [← g.K]
        exact s_enum q
      · exact pi_no
    · split
      · rename_i ex
        subst ex
        split
        · rename_i a b ht
          obtain ⟨es, k, tp, rfl⟩ := isTup_ok ht
          have hs2 := (noStars_cons hs).2
          have e2 := starEach_cons (es := []) (env := X.env) (noStars_cons hs2).1
          have e1 := starEach_cons (es := [b]) (env := X.env) (noStars_cons hs).1
          refine (pi_zipG h1 h2 (pa_cons (hE a).e (pa_cons (hE b).e pa_nil e2) e1) e1 (noStars_trees hs2).1).weak fun st H Q q => ?_
          rw [← g.K]
          exact s_zip q
        · exact pi_no
      · split
        · rename_i ex
          subst ex
          split
          · rename_i a
            have e1 := starEach_cons (es := []) (env := X.env) (noStars_cons hs).1
            split
            · rename_i u hu
              exact (pi_revR h1 h2 (prg1 g hE hu) e1).weak fun st H Q q => s_revRg1 q
            · rename_i u v hu
              exact (pi_revR h1 h2 (prg2 g hE hu) e1).weak fun st H Q q => s_revRg2 q
            · exact pi_no
            · refine (pi_revT h1 h2 (hE a).e e1).weak fun st H Q q => ?_
              rw [← g.K]
              exact s_revA q
          · exact pi_no
        · exact ok_pi g.K (ok_bltE g hE hb hs) tg
def rTIx (K : PySem.W.Frag) : V → List V → Hp → VK → Prop := fun x xs H Q => ∃ (a : Addr) (ys : List V) (y : V) (j : Nat) (z : V), x = V.ref a ∧ xs = [y] ∧ SqK K a ys ∧ flatV y = true ∧ ys.all flatV = true ∧ ys[j]? = some z ∧ eqV z y = true ∧
  (∀ (m : Nat) (z' : V), m < j → ys[m]? = some z' → eqV z' y = false) ∧ Q (.int (j : Nat)) H
theorem mt_tupIx {X : Cx} : MtR X "tuple.index" (rTIx X.K) := by
  intro pins s σ H x xs v us Q I rx rxs h
  obtain ⟨a, ys, y, j, z, rfl, rfl, hs, fy, fys, hz, hzj, hno, q⟩ := h
  cases rx
  cases rxs with
  | cons ry rt =>
    rename_i uy ut
    cases rt
    obtain ⟨⟨cls, dd, data, sl⟩, its, n, hk, hc, hdn, hd, hlen, rv⟩ := hs
    simp only at hc hd
    subst hc hd
    have ho := I.kIn _ _ hk
    obtain ⟨u, hu, ru⟩ := rv.get hz
    obtain ⟨hjl, hje⟩ := List.getElem?_eq_some_iff.mp hu
    have hvl := rv.length
    have hj : j < its.size := by simpa using hjl
    refine call_meets PySem.F.slot_tuple_index ⟨_, ho, rfl⟩ PySem.F.entry_tuple_index (PySem.F.args_tuple_index_2 _ _)
      (TI.tuple_indexAt a its n dd sl uy (eqU y) j hj ?_ ?_) ⟨ho, fun u' hu' => mem_eqAt ry fy rv fys u' (by simpa using hu'), ?_⟩
    · have e1 : its[j] = u := by simpa using hje
      rw [e1, eqU_of ru (flat_at fys hz)]
      exact hzj
    · intro m hm hmj
      have hml : m < its.toList.length := by simpa using hm
      have hmy : m < ys.length := by omega
      have hy' : ys[m]? = some ys[m] := List.getElem?_eq_getElem hmy
      obtain ⟨u2, hu2, ru2⟩ := rv.get hy'
      obtain ⟨_, hme⟩ := List.getElem?_eq_some_iff.mp hu2
      have e1 : its[m] = u2 := by simpa using hme
      rw [e1, eqU_of ru2 (flat_at fys hy')]
      exact hno m _ hmj hy'
    · exact ⟨.int (j : Nat), H, I.tok _, ⟨_, rfl⟩, q⟩
theorem s_tupIx {ds : List D} {ys : List V} {m : ME} {p : Addr} {st : L2.St} {H : Hp} {Q : VK} (hk : SqK Z.K p ys) (r : ∀ io H, DRels Z.K io H ys ds) (h : tM Z (mTupIx ds m) st H Q) : (tMA Z (mArgs [m])) st H fun xs H2 => rTIx Z.K (.ref p) xs H2 Q := by
  obtain ⟨io, s, h0, hR, hE, p1⟩ := h
  refine ⟨io, s, h0, hR, hE, ?_⟩
  have p2 := PostR.bind (rel1 := DRel Z.K) p1
  show PostR Z io H st (DRels Z.K) ((m s h0).bind fun x h1 => .ok [x] h1) _
  cases e : m s h0 with
  | ok y h1 =>
    rw [e] at p2
    intro vs H' jo u r1 r2
    cases r2 with
    | cons q t =>
      cases t
      obtain ⟨jo', h1', d, s', R', rel', p3⟩ := p2 _ H' jo u r1 q
      split at p3
      · rename_i c
        rw [Bool.and_eq_true] at c
        obtain ⟨dd, e2, p3⟩ := retD_post p3
        obtain ⟨j, e3, rfl⟩ := map_inv e2
        obtain ⟨z, h1, h2, h3⟩ := idx_rel rel' c.1 (r jo' H') c.2 e3
        exact ⟨p, ys, _, j, z, rfl, rfl, hk, flat_of rel' c.1, flats_of (r jo' H') c.2, h1, h2, h3, p3.here R' (.int _)⟩
      · exact p3.elim
  | exc x h1 => rw [e] at p2; exact p2
  | no => rw [e] at p2; exact p2.elim
theorem tupIx_inv {c : C} {o : Expr} {nm : Str} {args : List Expr} {ds : List D} {a : Expr} (e : tupIx c o nm args = some (ds, a)) : nm = "index" ∧ args = [a] ∧ ∃ x p, o = .Name x p ∧ c.G.lookup x = some (.con (.tup ds)) ∧ isGl c x = true := by
  unfold tupIx at e
  split at e
  · rename_i hn
    split at e
    · rename_i ds' a' hc
      cases e
      refine ⟨hn, rfl, ?_⟩
      unfold conTup at hc
      split at hc
      · rename_i x p
        split at hc
        · rename_i ds'' hl
          split at hc
          · rename_i hg
            cases hc
            exact ⟨x, p, rfl, hl, hg⟩
          · cases hc
        · cases hc
      · cases hc
    · cases e
  · cases e
theorem isKeyLen_inv {c : C} {kws : List Keyword} (h : isKeyLen c kws = true) : True ∧ True ∧ True ∧ ∃ p2 kp, kws = [⟨some "key", .Name "len" p2, kp⟩] ∧ isBl c "len" = true := by
  unfold isKeyLen at h
  split at h
  · rename_i k y p2 kp
    obtain ⟨rfl, rfl, h3⟩ := of_decide_eq_true h
    exact ⟨trivial, trivial, trivial, p2, kp, rfl, h3⟩
  · cases h
theorem ok_call (g : Good X Z lv c) (hE : ∀ e, OkE X Z (E e) e) {f : Expr} {args : List Expr} {kws : List Keyword} {p : Pos} : OkE X Z (evCall c E f args kws p) (.Call f args kws p) := by
  unfold evCall
  split
  · rename_i hs
    have ha := ok_args (X := X) (Z := Z) (E := E) hs fun e _ => hE e
    split
    · rename_i x q
      split
      · rename_i i np sh hx
        split
        · rename_i hg
          split
          · rename_i ks hk
            split
            · rename_i pm hp
              obtain ⟨h1, h2⟩ := g.gl hg
              obtain ⟨fa, fd, ps, hn, hm, kp, F, B⟩ := g.fn x i np sh hx
              refine ok_vt g.K ((pe_callG (E := WE Z.W) F g.gd g.room h1 hm kp (B _ _ _ hp) (fun st => passAt g.tk st) ha (fun hz st H QA q => ?_) (ok_kws (E := E) fun k _ => hE _) hs hk h2).weak fun st H Q q => ?_) rfl
              · subst hz
                exact s_nil q
              · rw [← g.K]
                exact s_callG q
            · exact ok_no
          · exact ok_no
        · exact ok_no
      · exact ok_no
      · split
        · rename_i hb
          split
          · have hv := ok_bltE (p := q) (pos := p) g hE hb hs
            exact ⟨hv, ok_pt g.K hv rfl, fun tg => ok_bltI g hE hb hs⟩
          · split
            · rename_i hx
              obtain ⟨rfl, hk⟩ := hx
              split
              · rename_i a
                obtain ⟨k1, k2, k3, k4⟩ := isKeyLen_inv hk
                obtain ⟨p2, kp, hkw, hb2⟩ := k4
                have e1 := starEach_cons (es := []) (env := X.env) (noStars_cons hs).1
                obtain ⟨h1, h2, _⟩ := g.bl hb
                obtain ⟨h3, h4, _⟩ := g.bl hb2
                rw [hkw]
                exact ok_vt g.K ((pe_sortLen g.un h1 h2 h3 h4 (hE a).e e1).weak fun st H Q q => (by rw [← g.K]; exact s_sortLen q)) rfl
              · exact ok_no
            · exact ok_no
        · exact ok_no
    · rename_i o nm apos
      split
      · split
        · rename_i hc
          simp only [Bool.and_eq_true, decide_eq_true_eq] at hc
          split
          · rename_i ds a htx
            obtain ⟨rfl, rfl, x, p, rfl, hl, hg⟩ := tupIx_inv htx
            obtain ⟨h1, h2⟩ := g.gl hg
            obtain ⟨u, hm, _, hL⟩ := g.con _ _ hl
            obtain ⟨ka, ys, rfl, hk, hr⟩ := hL ds rfl
            obtain ⟨ko, its, n, k1, k2, k3, k4, k5, k6⟩ := id hk
            have ho : PE X (.Name x p) (tC (.ref ka)) := pe_glob h1 hm rfl h2
            refine ok_vt g.K ((pe_method ho ha hc.1.1 hs hc.1.2 hc.2).weak fun st H Q q => ?_) rfl
            rw [← g.K] at hk
            exact ⟨"tuple", _, _, ⟨PySem.F.plainAttrs_tuple, PySem.F.slot_tuple_index, PySem.F.type_tuple_index, mt_tupIx⟩, .inr (.inl ⟨rfl, ko, k1, k2, k3⟩), by rw [← g.K]; exact s_tupIx hk (by rw [g.K]; exact hr) q⟩
          cases args with
          | nil => exact ok_vt g.K ((pe_method0 (hE o).e hc.1.1 hc.2).weak fun st H Q q => s_meth0 X g.K q) rfl
          | cons a r => exact ok_vt g.K ((pe_method (hE o).e ha hc.1.1 hs hc.1.2 hc.2).weak fun st H Q q => s_meth X g.K q) rfl
        · exact ok_no
      · exact ok_no
    · exact ok_no
  · exact ok_no
theorem ok_part (hE : ∀ e, OkE X Z (E e) e) : ∀ {o : Option Expr}, PO X o (tMO Z (evPart E o))
  | none => ⟨fun pins s st H Q I q => po_none.run pins s st H Q I (s_oNone q)⟩
  | some e => ⟨fun pins s st H Q I q => (po_some (hE e).e).run pins s st H Q I (s_part q)⟩
theorem isRevSl_ok {lo hi : Option Expr} {st : Expr} (h : isRevSl lo hi st = true) : ∃ k p1 p2, lo = none ∧ hi = none ∧ st = .UnaryOp .USub (.Constant (.int 1) k p1) p2 := by
  unfold isRevSl at h
  split at h
  · exact ⟨_, _, _, rfl, rfl, rfl⟩
  · cases h
theorem ok_sub (g : Good X Z lv c) (hE : ∀ e, OkE X Z (E e) e) {a sl : Expr} {p : Pos} : OkE X Z (evSub E a sl) (.Subscript a sl p) := by
  unfold evSub
  split
  · rename_i lo hi q
    refine ok_vt g.K ((pe_slice sl_any (hE a).e (ok_part hE) (ok_part hE)).weak fun st H Q q => ?_) rfl
    rw [← g.K]
    exact s_sl q
  · rename_i lo hi st q
    split
    · rename_i h
      obtain ⟨k, p1, p2, rfl, rfl, rfl⟩ := isRevSl_ok h
      refine ok_vt g.K ((pe_revA (hE a).e).weak fun st H Q q => ?_) rfl
      rw [← g.K]
      exact s_rev q
    · exact ok_no
  · rename_i n1 n2
    obtain ⟨h1, h2⟩ := opI_ok X Z g.K
    refine ok_vt g.K ((pe_ix h1 (hE a).e (hE sl).e ?_).weak fun st H Q q => s_bin h2 q) rfl
    intro o i
    cases sl with
    | Slice lo hi st q =>
      cases st with
      | none => exact absurd rfl (n1 _ _ _)
      | some st => exact absurd rfl (n2 _ _ _ _)
    | _ => rfl
end
end PyI
-- PyS
/-! PyS: targets, comprehensions, the whole of an expression -/
namespace PyI
open PySem PySem.Spec PyProof.Rows L2
section
variable {X : Cx} {Z : Zx} {lv : Nat} {c : C} {e : Expr} {E : Expr → EvR} {o : Option (List Nat)}
theorem noG {v : V} {st : L2.St} {H : Hp} {Q : L2.St → Hp → Prop} (h : tMG Z o gNo v st H Q) : False := let ⟨_, _, _, _, _, _, _, p⟩ := h; p
theorem tgOk_ok (g : Good X Z lv c) {x : Str} (h : tgOk c x = true) : L2.Loc X.env.scope x ∧ (X.fn x = true ∨ X.env.scope.names.lookup x = some .local) := by
  unfold tgOk at h
  unfold L2.Loc
  rw [g.sc]
  split at h
  · rename_i q; exact ⟨.inl q, .inr q⟩
  · rename_i q; exact ⟨.inr q, .inl (g.cw x h)⟩
  · cases h
theorem assignEach_cons {e : Expr} {es : List Expr} {env : Env} (h : isStar e = false) : assignEach (e :: es) env = (false, assign e env) :: assignEach es env := by
  cases e <;> first | rfl | cases h
theorem assignEach_plain {env : Env} : ∀ {es : List Expr}, noStars es = true → (assignEach es env).length = es.length ∧ (assignEach es env).findIdx? (·.1) = none
  | [], _ => ⟨rfl, rfl⟩
  | e :: es, h => by
    obtain ⟨h0, h1⟩ := noStars_cons h
    obtain ⟨a, b⟩ := assignEach_plain (env := env) h1
    rw [assignEach_cons h0]
    refine ⟨by simp [a], ?_⟩
    rw [List.findIdx?_cons, b]
    rfl
theorem ok_tgs (g : Good X Z lv c) {f : Expr → Option MG} (hf : ∀ e m, f e = some m → PG X e (tMG Z o m)) : ∀ {es : List Expr} {l : List MG}, noStars es = true → mapO f es = some l → l.length = es.length ∧ PGs X es (tMGs Z o (gsM l))
  | [], _, _, h => by cases h; exact ⟨rfl, pgs_nil.weak fun v st H Q q => s_gsNil q⟩
  | e :: es, l, hs, h => by
    obtain ⟨h0, h1⟩ := noStars_cons hs
    obtain ⟨m, e1, h⟩ := bind_inv h
    obtain ⟨ms, e2, rfl⟩ := map_inv h
    obtain ⟨a, b⟩ := ok_tgs g hf h1 e2
    refine ⟨by simp [a], (pgs_cons (hf e m e1) b ?_).weak fun v st H Q q => s_gsCons q⟩
    rw [assignEach_cons h0]
    rfl
theorem starLast_pos : ∀ {es es' : List Expr}, starLast es = some es' → 1 ≤ es'.length
  | [], _, h => by cases h
  | [e], es', h => by
    unfold starLast at h
    split at h
    · split at h
      · cases h
      · cases h; simp
    · cases h
  | e :: a :: r, es', h => by
    have h : (if isStar e then none else (starLast (a :: r)).map fun es => e :: es) = some es' := by unfold starLast at h; exact h
    split at h
    · cases h
    · obtain ⟨l, _, rfl⟩ := map_inv h
      simp
theorem noStars_mk {e : Expr} {es : List Expr} (h1 : isStar e = false) (h2 : noStars es = true) : noStars (e :: es) = true := by
  unfold noStars at h2 ⊢
  rw [List.all_cons, h1, h2]
  rfl
theorem starLast_ok {env : Env} : ∀ {es es' : List Expr}, starLast es = some es' → noStars es' = true ∧ (assignEach es env).map (·.2) = (assignEach es' env).map (·.2) ∧ (assignEach es env).length = (es'.length - 1) + 1 ∧ (assignEach es env).findIdx? (·.1) = some (es'.length - 1)
  | [], _, h => by cases h
  | [e], es', h => by
    unfold starLast at h
    split at h
    · rename_i t p
      split at h
      · cases h
      · rename_i hs
        cases h
        have hs : isStar t = false := by simpa using hs
        refine ⟨noStars_mk hs rfl, ?_, rfl, rfl⟩
        rw [assignEach_cons hs]
        rfl
    · cases h
  | e :: a :: r, es', h => by
    have h : (if isStar e then none else (starLast (a :: r)).map fun es => e :: es) = some es' := by unfold starLast at h; exact h
    split at h
    · cases h
    · rename_i hs
      have hs : isStar e = false := by simpa using hs
      obtain ⟨l, e1, rfl⟩ := map_inv h
      obtain ⟨a1, a2, a3, a4⟩ := starLast_ok (env := env) e1
      have hp := starLast_pos e1
      refine ⟨noStars_mk hs a1, ?_, ?_, ?_⟩
      · rw [assignEach_cons hs, assignEach_cons hs, List.map_cons, List.map_cons, a2]
      · rw [assignEach_cons hs, List.length_cons, a3, List.length_cons]; omega
      · rw [assignEach_cons hs, List.findIdx?_cons, a4]
        simp
        omega
theorem ok_tg (g : Good X Z lv c) (hE : ∀ e, OkE X Z (E e) e) : ∀ (n : Nat) (e : Expr) (m : MG), evG E c o n e = some m → PG X e (tMG Z o m)
  | 0, e, m, h => by cases h
  | n + 1, e, m, h => by
    unfold evG at h
    split at h
    · rename_i x p
      split at h
      · rename_i ht
        obtain ⟨i, hi, h⟩ := bind_inv h
        split at h
        · rename_i hk
          cases h
          obtain ⟨l1, l2⟩ := tgOk_ok g ht
          refine (pg_name (i := i) (by rw [g.N]; exact g.nd) ?_ l1 l2).weak fun v st H Q q => s_gNm hk q
          rw [g.N]
          exact ixOf_get hi
        · cases h
      · cases h
    · rename_i es k p
      split at h
      · rename_i hs
        obtain ⟨l, e1, rfl⟩ := map_inv h
        obtain ⟨a, b⟩ := ok_tgs g (ok_tg g hE n) hs e1
        obtain ⟨c1, c2⟩ := assignEach_plain (env := X.env) hs
        refine (pg_tl g.calm b c1 c2).weak fun v st H Q q => ?_
        rw [← g.K]
        exact s_gTp a q
      · obtain ⟨es', q1, h⟩ := bind_inv h
        obtain ⟨l, e1, rfl⟩ := map_inv h
        obtain ⟨s1, s2, s3, s4⟩ := starLast_ok (env := X.env) q1
        obtain ⟨a, b⟩ := ok_tgs g (ok_tg g hE n) s1 e1
        refine (pg_star g.calm ⟨fun pins s σ H vs us Q I r q => by rw [s2]; exact b.run pins s σ H vs us Q I r q⟩ s3 s4).weak fun v st H Q q => ?_
        rw [← g.K]
        have hl := starLast_pos q1
        exact s_gStM (by omega) q
    · rename_i a b p
      split at h
      · cases h
      · rename_i hb
        cases h
        refine (pg_sub (hE a).e (hE b).e set_list fun v => ?_).weak fun v st H Q q => s_gSub q
        cases b <;> first | rfl | exact absurd rfl hb
    · cases h
theorem unset_fold {e : Expr} {env : Env} (h : isSetE e = false) : ∀ x, foldedSetIterable e env x = pure x := by
  intro x
  cases e <;> first | rfl | cases h
theorem tYes_ok {st : L2.St} {H : Hp} {Q : Bool → Hp → Prop} (h : tMT Z tYesM st H Q) : tYes st H Q := by
  obtain ⟨io, s, h0, hR, hE, p⟩ := h
  exact p.here hR rfl
theorem ok_tests (hE : ∀ e, OkE X Z (E e) e) : ∀ {l : List Expr}, PTs X l (tMT Z (evTests E l))
  | [] => pts_nil.weak fun st H Q q => tYes_ok q
  | [t] => pts_one (hE t).t
  | _ :: _ :: _ => ⟨fun _ _ _ _ _ _ h => (noT h).elim⟩
/-- a comprehension's reading, for name = [..] too -/
theorem lc_parts (g : Good X Z lv c) {E' : Expr → EvR} {elt : Expr} {gens : List Comprehension} {scope : Scope} {P : EvR → Prop} (hno : P evNo)
    (h : ∀ tg iter ifs m, gens = [⟨tg, iter, ifs, 0⟩] → isSetE iter = false → BlkOk c.N c.sc scope (ownOf c.N scope.names) → evG E' (c.blk scope) (some ((ownOf c.N scope.names).map (·.2))) 9 tg = some m →
      P (vt (mLc ((E iter).i (isTup tg)) m (evTests E' ifs) (E' elt).e ((ownOf c.N scope.names).map (·.2))))) : P (evLc E E' c elt gens scope) := by
  unfold evLc
  split
  · rename_i tg iter ifs a
    split
    · rename_i hh
      obtain ⟨ha, hs, hb⟩ := hh
      subst ha
      split
      · rename_i m hm
        exact h tg iter ifs m rfl hs (blkOk_by hb) hm
      · exact hno
    · exact hno
  · exact hno
theorem ok_lc (g : Good X Z lv c) (hE : ∀ e, OkE X Z (E e) e) {E' : Expr → EvR} {scope : Scope} (hE' : ∀ X' Z', Good X' Z' lv (c.blk scope) → ∀ e, OkE X' Z' (E' e) e) {elt : Expr} {gens : List Comprehension} {p : Pos} :
    OkE X Z (evLc E E' c elt gens scope) (.ListComp elt gens scope p) := by
  refine lc_parts g (P := fun r => OkE X Z r (.ListComp elt gens scope p)) ok_no fun tg iter ifs m hg hs hb hm => ?_
  subst hg
  have G := fun (s : Shared) (H : Hp) (L : Addr) (cl : List (Str × Addr)) (fp : List Addr) => g.blk (s := s) (H := H) (L := L) (cl := cl) (fp := fp) hb.kind
  refine ok_vt g.K ((pe_lc g.calm (by rw [g.N]; exact g.nd) ((hE iter).i tg) (own := ownOf c.N scope.names) (by rw [g.N, g.sc]; exact hb) (fun s H L cl fp => ok_tg (G s H L cl fp) (hE' _ _ (G s H L cl fp)) 9 tg m hm)
    (fun s H L cl fp => ok_tests (hE' _ _ (G s H L cl fp))) (fun s H L cl fp => (hE' _ _ (G s H L cl fp) elt).e) (unset_fold hs)).weak fun st H Q q => s_lc q) rfl
/-- THE MIRROR OF AN EXPRESSION IS TRUE -/
theorem ev_ok : ∀ (n : Nat) {X : Cx} {Z : Zx} {lv : Nat} {c : C}, Good X Z lv c → ∀ e, OkE X Z (ev n c e) e
  | 0, X, Z, lv, c, g, e => ok_no
  | n + 1, X, Z, lv, c, g, e => by
    have ih := ev_ok n g
    unfold ev
    split
    · rename_i k j p
      split
      · rename_i d hd
        cases k with
        | none => cases hd; exact ok_lit g.K pe_non (fun _ _ => .non) rfl
        | bool b => cases hd; exact ok_lit g.K pe_bl (fun _ _ => .bl b) rfl
        | int b => cases hd; exact ok_lit g.K pe_int (fun _ _ => .int b) rfl
        | str b => cases hd; exact ok_lit g.K pe_str (fun _ _ => .str b) rfl
        | _ => cases hd
      · exact ok_no
    · exact ok_name g
    · rename_i a op b p
      obtain ⟨r, h1, h2⟩ := opB_ok X Z g.K op
      exact ok_vt g.K ((pe_op h1 (ih a).e (ih b).e).weak fun st H Q q => s_bin h2 q) rfl
    · rename_i op a p
      split
      · exact ok_vt g.K ((pe_un un_neg (ih a).e).weak fun st H Q q => s_neg q) rfl
      · exact ⟨(pe_not (ih a).e).weak fun st H Q q => s_notE q, (pt_not (ih a).t).weak fun st H Q q => s_notT q, fun _ => pi_no⟩
      · exact ok_no
    · rename_i op vs p
      split
      · exact ⟨ok_and fun e _ => ih e, (ok_andT fun e _ => ih e).pt, fun _ => pi_no⟩
      · exact ⟨ok_or fun e _ => ih e, (ok_orT fun e _ => ih e).pt, fun _ => pi_no⟩
    · rename_i t a b p
      have hv := (pe_ifExp (pos := p) (ih t).t (ih a).e (ih b).e).weak fun st H Q q => s_if (Z := Z) q
      exact ⟨hv, pt_no, fun tg => ok_pi g.K hv tg⟩
    · exact ok_cmp g ih
    · exact ok_call g ih
    · exact ok_sub g ih
    · rename_i es p
      split
      · rename_i hs
        exact ok_vt g.K ((pe_lst (ok_args hs fun e _ => ih e)).weak fun st H Q q => s_lst q) rfl
      · exact ok_no
    · rename_i es k p
      split
      · rename_i hs
        exact ok_vt g.K ((pe_tup (ok_args hs fun e _ => ih e)).weak fun st H Q q => s_tup q) rfl
      · exact ok_no
    · exact ok_vt g.K (pe_dnewK.weak fun st H Q q => s_dict0 q) rfl
    · exact ok_lc g ih fun X' Z' g' => ev_ok n g'
    · exact ok_no
end
end PyI
-- PyT
/-! PyT: the mirror of a statement -/
namespace PyI
noncomputable section
open PySem PySem.Spec PyProof.Rows L2
theorem sw_len {ts vs : List Expr} {k k2 : Nat} {p p2 : Pos} {env : Env} (h : ts.length ≠ 2 ∧ ts.length ≠ 3) : swappedStores [.Tuple ts k p] (.Tuple vs k2 p2) env = pure none := by
  unfold swappedStores
  simp [h.1, h.2]
theorem sw_fold {ts vs : List Expr} {k k2 : Nat} {p p2 : Pos} {env : Env} (h : vs.all (foldedForSure 8) = true) : swappedStores [.Tuple ts k p] (.Tuple vs k2 p2) env = pure none := by
  unfold swappedStores
  simp only [h]
  simp
def isName : Expr → Bool
  | .Name _ _ => true
  | _ => false
def isSubE : Expr → Bool
  | .Subscript _ _ _ => true
  | _ => false
theorem sw_sub {ts vs : List Expr} {k k2 : Nat} {p p2 : Pos} {env : Env} (h : ts.any (fun e => !isName e) = true) : swappedStores [.Tuple ts k p] (.Tuple vs k2 p2) env = pure none := by
  have key : ∀ (f : Expr → Option Str), (∀ e, isName e = false → f e = none) → (ts.filterMap f).length ≠ ts.length := by
    intro f hf
    have : ∀ l : List Expr, l.any (fun e => !isName e) = true → (l.filterMap f).length < l.length := by
      intro l
      induction l with
      | nil => intro h; cases h
      | cons a r ih =>
        intro h
        rw [List.any_cons, Bool.or_eq_true] at h
        rw [List.filterMap_cons]
        have le := List.length_filterMap_le f r
        rcases h with h | h
        · rw [hf a (by simpa using h)]
          simp
          omega
        · have := ih h
          cases f a with
          | none => simp only [List.length_cons]; omega
          | some z => simp only [List.length_cons]; omega
    exact Nat.ne_of_lt (this ts h)
  unfold swappedStores
  dsimp only
  split
  · rfl
  · split
    · rfl
    · rw [if_pos]
      rw [Bool.or_eq_true]
      left
      rw [bne_iff_ne]
      apply key
      intro e he
      cases e <;> first | rfl | cases he
def isLoc (sc : Scope) : Expr → Bool
  | .Name x _ => decide (sc.names.lookup x = some .local)
  | _ => false
def isCelN (sc : Scope) : Expr → Bool
  | .Name x _ => decide (sc.names.lookup x = some .cell)
  | _ => false
theorem cel_loc {sc : Scope} {ts : List Expr} (h : ts.any (isCelN sc) = true) : ts.any (fun e => !isLoc sc e) = true := by
  rw [List.any_eq_true] at h ⊢
  obtain ⟨e, he, h⟩ := h
  refine ⟨e, he, ?_⟩
  cases e <;> first | rfl | (simp [isCelN] at h; simp [isLoc, h])
theorem sw_nloc {ts vs : List Expr} {k k2 : Nat} {p p2 : Pos} {env : Env} (h : ts.any (fun e => !isLoc env.scope e) = true) : swappedStores [.Tuple ts k p] (.Tuple vs k2 p2) env = pure none := by
  have key : ∀ (f : Expr → Option Str), (∀ e, isLoc env.scope e = false → f e = none) → (ts.filterMap f).length ≠ ts.length := by
    intro f hf
    have : ∀ l : List Expr, l.any (fun e => !isLoc env.scope e) = true → (l.filterMap f).length < l.length := by
      intro l
      induction l with
      | nil => intro h; cases h
      | cons a r ih =>
        intro h
        rw [List.any_cons, Bool.or_eq_true] at h
        rw [List.filterMap_cons]
        have le := List.length_filterMap_le f r
        rcases h with h | h
        · rw [hf a (by simpa using h)]
          simp
          omega
        · have := ih h
          cases f a with
          | none => simp only [List.length_cons]; omega
          | some z => simp only [List.length_cons]; omega
    exact Nat.ne_of_lt (this ts h)
  unfold swappedStores
  dsimp only
  split
  · rfl
  · split
    · rfl
    · rw [if_pos]
      rw [Bool.or_eq_true]
      left
      rw [bne_iff_ne]
      apply key
      intro e he
      cases e with
      | Name x px =>
        have hx : ¬ env.kindOf x = some .local := by
          intro z
          have he2 : decide (env.scope.names.lookup x = some .local) = false := he
          exact (of_decide_eq_false he2) z
        have : (env.kindOf x == some NameKind.local) = false := by
          rw [Bool.eq_false_iff]
          intro q
          exact hx (eq_of_beq q)
        simp [this]
      | _ => rfl
theorem sw_par {a b : Expr} {x y : Str} {px py : Pos} {k k2 : Nat} {p p2 : Pos} {env : Env} (hk : env.scope.kind = .function) (hx : env.scope.names.lookup x = some .local) (hy : env.scope.names.lookup y = some .local) (hl : py.line = px.line) (hxy : x ≠ y)
    (ha : isStar a = false) (hb : isStar b = false) (hf : [a, b].all (foldedForSure 8) = false) (hc : [a, b].all (constantsAlone 8) = false) :
    swappedStores [.Tuple [.Name x px, .Name y py] k p] (.Tuple [a, b] k2 p2) env = pure (some [x, y]) := by
  have kx : env.kindOf x = some .local := hx
  have ky : env.kindOf y = some .local := hy
  have bk : env.blockKind = .function := by unfold Env.blockKind; rw [hk]; rfl
  have yx : (y == x) = false := by simpa using fun e => hxy e.symm
  unfold swappedStores
  simp [bk, kx, ky, hl, Expr.pos, hf, hc, List.eraseDups, yx]
  rw [if_neg, if_pos]
  · simp [List.eraseDupsBy, List.eraseDupsBy.loop, yx]
  · rintro (z | z)
    · cases a <;> first | exact Bool.noConfusion (show (false : Bool) = true from z) | exact Bool.noConfusion (show true = false from ha)
    · cases b <;> first | exact Bool.noConfusion (show (false : Bool) = true from z) | exact Bool.noConfusion (show true = false from hb)
theorem sw_par3 {a b d : Expr} {x y z : Str} {px py pz : Pos} {k k2 : Nat} {p p2 : Pos} {env : Env} (hk : env.scope.kind = .function) (hx : env.scope.names.lookup x = some .local) (hy : env.scope.names.lookup y = some .local) (hz : env.scope.names.lookup z = some .local)
    (hl : py.line = px.line) (hl2 : pz.line = px.line) (hxy : x ≠ y) (hxz : x ≠ z) (hyz : y ≠ z)
    (ha : isStar a = false) (hb : isStar b = false) (hd : isStar d = false) (hf : [a, b, d].all (foldedForSure 8) = false) (hc : [a, b, d].all (constantsAlone 8) = false) :
    swappedStores [.Tuple [.Name x px, .Name y py, .Name z pz] k p] (.Tuple [a, b, d] k2 p2) env = pure (some [x, y, z]) := by
  have kx : env.kindOf x = some .local := hx
  have ky : env.kindOf y = some .local := hy
  have kz : env.kindOf z = some .local := hz
  have bk : env.blockKind = .function := by unfold Env.blockKind; rw [hk]; rfl
  have yx : (y == x) = false := by simpa using fun e => hxy e.symm
  have zx : (z == x) = false := by simpa using fun e => hxz e.symm
  have zy : (z == y) = false := by simpa using fun e => hyz e.symm
  unfold swappedStores
  simp [bk, kx, ky, kz, hl, hl2, Expr.pos, hf, hc, List.eraseDups, yx, zx, zy]
  rw [if_neg, if_pos]
  · simp [List.eraseDupsBy, List.eraseDupsBy.loop, yx, zx, zy]
  · rintro (z | z | z)
    · cases a <;> first | exact Bool.noConfusion (show (false : Bool) = true from z) | exact Bool.noConfusion (show true = false from ha)
    · cases b <;> first | exact Bool.noConfusion (show (false : Bool) = true from z) | exact Bool.noConfusion (show true = false from hb)
    · cases d <;> first | exact Bool.noConfusion (show (false : Bool) = true from z) | exact Bool.noConfusion (show true = false from hd)
theorem sw_noTup {t e : Expr} {env : Env} (h : isTup e = false) : swappedStores [t] e env = pure none := by
  cases e with
  | Tuple => cases h
  | _ => cases t <;> rfl
theorem sw_noTg {t e : Expr} {env : Env} (h : isName t = true ∨ isSubE t = true) : swappedStores [t] e env = pure none := by
  cases t with
  | Name => cases e <;> rfl
  | Subscript => cases e <;> rfl
  | _ => rcases h with h | h <;> cases h
theorem sw_two {t1 t2 e : Expr} {env : Env} : swappedStores [t1, t2] e env = pure none := by
  cases t1 <;> rfl

/-! ### what is stored from the right -/
def mPar (ix : List Nat) (l : List ME) : MS := fun s h => bindS (mArgs l s h) s fun ds h1 => if ds.length = ix.length then .nx ((ix.zip ds).foldl (fun s p => s.set p.1 (some p.2)) s) h1 else .no
def mAsg2 (a : ME) (g1 g2 : MG) : MS := fun s h => bindS (a s h) s fun d h1 => match g1 d s h1 with
  | some (s1, h2) => (match g2 d s1 h2 with
    | some (s2, h3) => .nx s2 h3
    | none => .no)
  | none => .no
def opA (op : Operator) (x y : D) (h : DH) : Res D := match op, x, y with
  | .Add, .int _, .int _ => opB .Add x y h
  | .Add, .str _, .str _ => opB .Add x y h
  | .Sub, .int _, .int _ => opB .Sub x y h
  | .Mult, .int _, .int _ => opB .Mult x y h
  | _, _, _ => .no
section
variable {X : Cx} {Z : Zx} {lv : Nat} {c : C} {st : L2.St} {H : Hp} {D' : Ends}
theorem s_par2 {i j : Nat} {a b : ME} (h : tMS Z (mPar [i, j] [a, b]) D' st H) : tPar i j (tMA Z (mArgs [a, b])) D' st H := by
  obtain ⟨io, s, h0, hR, hE, p⟩ := h
  refine ⟨io, s, h0, hR, hE, (PostS.bind (rel1 := DRels Z.K) p hE).imp fun vs H1 hx => ?_⟩
  obtain ⟨io1, h1, d1, t1, R1, r1, p1⟩ := hx
  split at p1
  · rename_i hl
    cases r1 with
    | nil => cases hl
    | cons q1 t =>
      cases t with
      | nil => cases hl
      | cons q2 t =>
        cases t with
        | nil => exact ⟨_, _, rfl, p1.hereN R1 (((hE.mono t1).set q1 i).set q2 j)⟩
        | cons _ _ => cases hl
  · exact p1.elim
theorem s_par3 {i j k : Nat} {a b d : ME} (h : tMS Z (mPar [i, j, k] [a, b, d]) D' st H) : tPar3 i j k (tMA Z (mArgs [a, b, d])) D' st H := by
  obtain ⟨io, s, h0, hR, hE, p⟩ := h
  refine ⟨io, s, h0, hR, hE, (PostS.bind (rel1 := DRels Z.K) p hE).imp fun vs H1 hx => ?_⟩
  obtain ⟨io1, h1, d1, t1, R1, r1, p1⟩ := hx
  split at p1
  · rename_i hl
    cases r1 with
    | nil => cases hl
    | cons q1 t =>
      cases t with
      | nil => cases hl
      | cons q2 t =>
        cases t with
        | nil => cases hl
        | cons q3 t =>
          cases t with
          | nil => exact ⟨_, _, _, rfl, p1.hereN R1 ((((hE.mono t1).set q1 i).set q2 j).set q3 k)⟩
          | cons _ _ => cases hl
  · exact p1.elim
theorem s_asg2 {a : ME} {g1 g2 : MG} (h : tMS Z (mAsg2 a g1 g2) D' st H) : tM Z a st H fun x H1 => tMG Z none g1 x st H1 fun st2 H2 => tMG Z none g2 x st2 H2 D'.nx := by
  obtain ⟨io, s, h0, hR, hE, p⟩ := h
  refine ⟨io, s, h0, hR, hE, (PostS.bind (rel1 := DRel Z.K) p hE).imp fun x H1 hx => ?_⟩
  obtain ⟨io1, h1, d1, t1, R1, r1, p1⟩ := hx
  refine ⟨io1, s, h1, d1, R1, hE.mono t1, r1, ?_⟩
  cases e : g1 d1 s h1 with
  | none => rw [e] at p1; exact p1.elim
  | some q =>
    rw [e] at p1
    intro st' H' jo u r2 e2 _
    refine ⟨jo, q.1, q.2, d1, r2, e2, r1.mono u, ?_⟩
    dsimp only at p1
    cases e3 : g2 d1 q.1 q.2 with
    | none => rw [e3] at p1; exact p1.elim
    | some q3 =>
      rw [e3] at p1
      exact fun st' H' jo u' r1 e1 _ => p1 st' H' jo (u.trans u') r1 e1
end
end
end PyI
-- PyT1
/-! PyT1: text *= number -/
namespace PyI
open PySem PySem.Spec PyProof.Rows L2
open Builtin Builtin.Str Builtin.Int
theorem noI_str_mulP : typeLookup (.type "str") (dunderI "mul") = pure none := by rw [typeLookup_type, builtinLookup_eq_fast]; kernel_rfl
section
variable {M : Model} {A : Around} {E : Value → Shared → Prop} {s : Shared}
theorem inplace_repeatP {a n : Value} {T U id idr : String} {ix : Value} {Q : Value → Shared → Prop} (hTU : (Value.type T == Value.type U) = false) (ha : ∀ s' : Shared, s'.TypeIs a T) (hn : ∀ s' : Shared, s'.TypeIs n U)
    (hno : typeLookup (.type T) (dunderI "mul") = pure none)
    (hfT : fillsNumberSlot (.type T) "mul" = pure false) (hfU : fillsNumberSlot (.type U) "mul" = pure true) (hr : Slot U (dunderR "mul") idr)
    (hrep : seqRepeat? (.type T) = pure (some (.builtin id))) (hix : typeLookup (.type U) "__index__" = pure (some ix))
    (hc : wpAny M A (call (.builtin idr) [n, a]) (fun v s' => v = .notImplemented ∧ wpAny M A (call (.builtin id) [a, n]) Q E s') E s) : wpAny M A (inplaceOp .Mult a n) Q E s := by
  unfold inplaceOp
  refine wpAny_holding ?_
  have hfi : fillsInplaceSlot (.type T) "mul" (Operator.Mult == .Add) = pure false := by
    unfold fillsInplaceSlot
    show (typeLookup (.type T) (dunderI "mul") >>= fun fi => pure (fi.isSome && !isSeqSlot fi)) = pure false
    rw [hno]; rfl
  have hsi : seqSlot? (.type T) (dunderI "mul") = pure none := by
    unfold seqSlot?
    rw [hno]; rfl
  refine wpAny_bind (wpAny_typeOf (ha s) (wpAny_bind (wpAny_of_eq hfi ?_)))
  show wpAny M A (if false = true then _ else _) Q E s
  rw [if_neg Bool.false_ne_true]
  refine wpAny_bind (wpAny_binaryOp1_right_declines (nm := "mul") hTU (ha s) (hn s) hfT hfU hr (wpAny_mono hc (fun v s' h' => ⟨h'.1, ?_⟩) fun _ _ e => e))
  refine wpAny_bind (wpAny_of_eq hsi ?_)
  refine wpAny_bind (wpAny_of_eq hrep ?_)
  unfold sequenceRepeat
  refine wpAny_bind (wpAny_specialOf (hn s') hix ?_)
  exact wpAny_bind (wpAny_rule h'.2)
end
section
variable {prog : Program} {w : World} {A : Around} {E : Value → Shared → Prop} {s : Shared} {x : Str} {n : Int} {t u : Tok}
theorem imul_strP {Q : Value → Shared → Prop} (hr : (decide (n < -(2 ^ 63 : Int)) || decide (n ≥ 2 ^ 63)) = false)
    (hb : ¬ n < 1 → (n == 1 || x.length == 0) = false → ¬ ((x.length : Int) > (2 ^ 63 - 1) / n)) (hl : ¬ n < 1 → (n == 1 || x.length == 0) = false → tooLong (x.length * n.toNat) = false)
    (h : (if n < 1 then Made.str Str.empty else if (n == 1 || x.length == 0) = true then Made.val (.str x t) else Made.str ⟨(List.replicate n.toNat x.cps).foldl (· ++ ·) #[]⟩).post Q s) :
    wpAny (model prog w) A (inplaceOp .Mult (.str x t) (.int n u)) Q E s :=
  inplace_repeatP (T := "str") (U := "int") (by decide) (fun s' => typeIs_str s' x t) (fun s' => typeIs_int s' n u) noI_str_mulP noFill_str_mul F.fills_int_mul F.slot_int_rmul repeat_str F.slot_int_index.lookup
    (call_gives F.slot_int_rmul (typeIs_int s n u) F.entry_int_rmul (F.args_int_rmul_2 _ _) (AutoIntG1.int___rmul___int_str_0 n u x t)
      ⟨rfl, call_gives F.slot_str_mul (typeIs_str s x t) F.entry_str_mul (F.args_str_mul_2 _ _) (gives_str_mul x n t u hr hb hl) h⟩)
theorem imulP (hok : MulOk x n) {Q : Value → Shared → Prop} (h : ∀ t' k, Q (.str (Txt.mul x n) t') { s with toks := k }) : wpAny (model prog w) A (inplaceOp .Mult (.str x t) (.int n u)) Q E s := by
  refine imul_strP hok.1 hok.2.1 hok.2.2 ?_
  unfold Txt.mul at h
  by_cases h1 : n < 1
  · rw [if_pos h1]; have h' := h s.toks (s.toks + 1); rw [if_pos h1] at h'; exact ⟨by decide, h'⟩
  · rw [if_neg h1]; refine post_val_or_made (fun hc => fits_reps (hok.2.2 h1 (by simpa using hc))) fun t' k => ?_
    have h' := h t' k; rw [if_neg h1] at h'; exact h'
end
theorem iop_strMul {X : Cx} : OpR X (inplaceOp .Mult) rStrMul := by
  intro pins s st H x y v u Q I rx ry h
  obtain ⟨a, k, rfl, rfl, ok, q⟩ := h
  obtain ⟨t, rfl⟩ := rx
  obtain ⟨t', rfl⟩ := ry
  exact imulP ok fun t2 k2 => ⟨.str _, H, I.tok _, ⟨_, rfl⟩, q⟩
end PyI
-- PyU
/-! PyU: the mirror of a statement tells the truth -/
namespace PyI
noncomputable section
open PySem PySem.Spec PyProof.Rows L2
/-! ### a op= b -/
def big64 (i : Int) : Bool := decide (-hid 18446744073709551616 < i) && decide (i < hid 18446744073709551616)
def augAdd (x y : D) (h : DH) : Res D := match x, y with
  | .int i, .int j => .ok (.int (i + j)) h
  | .str i, .str j => if i.length + j.length ≤ 16777216 then .ok (.str (i ++ j)) h else .no
  | _, _ => .no
def augSub (x y : D) (h : DH) : Res D := match x, y with
  | .int i, .int j => .ok (.int (i - j)) h
  | _, _ => .no
def augMul (x y : D) (h : DH) : Res D := match x, y with
  | .int i, .int j => if big64 i || big64 j then .ok (.int (i * j)) h else .no
  | .str a, .int k => if a.length ≤ 1000 ∧ -1000 ≤ k ∧ k ≤ 1000 then .ok (.str (strMul a k)) h else .no
  | _, _ => .no
def augNo (x y : D) (h : DH) : Res D := .no
def opAug : Operator → D → D → DH → Res D
  | .Add => augAdd
  | .Sub => augSub
  | .Mult => augMul
  | _ => augNo
theorem big64_inv {i : Int} (h : big64 i = true) : -(2 ^ 64) < i ∧ i < 2 ^ 64 := by
  unfold big64 at h
  rw [hid_eq] at h
  simp only [Bool.and_eq_true, decide_eq_true_eq] at h
  omega
theorem opAug_ok (X : Cx) (Z : Zx) (op : Operator) : ∃ r, PIp X op r ∧ OpS Z r (opAug op) := by
  have hz := sizeLine_eq
  have no : ∃ r, PIp X op r ∧ OpS Z r augNo := ⟨rNo, fun _ _ _ _ _ _ _ _ _ _ _ _ h => h.elim, fun io h H st x y dx dy Q R rx ry p => p.elim⟩
  cases op with
  | Add =>
    refine ⟨_, OpR.ror iop_add iop_add_str, fun io h H st x y dx dy Q R rx ry p => ?_⟩
    show ror _ _ _ _ _ _
    have p : PostR Z io H st (DRel Z.K) (augAdd dx dy h) Q := p
    unfold augAdd at p
    split at p
    · cases rx; cases ry; exact .inl ⟨_, _, rfl, rfl, p.here R (.int _)⟩
    · cases rx; cases ry
      split at p
      · exact .inr ⟨_, _, rfl, rfl, by omega, p.here R (.str _)⟩
      · exact p.elim
    · exact p.elim
  | Sub =>
    refine ⟨_, iop_sub, fun io h H st x y dx dy Q R rx ry p => ?_⟩
    have p : PostR Z io H st (DRel Z.K) (augSub dx dy h) Q := p
    unfold augSub at p
    split at p
    · cases rx; cases ry; exact ⟨_, _, rfl, rfl, p.here R (.int _)⟩
    · exact p.elim
  | Mult =>
    refine ⟨_, OpR.ror iop_mul iop_strMul, fun io h H st x y dx dy Q R rx ry p => ?_⟩
    show ror _ _ _ _ _ _
    have p : PostR Z io H st (DRel Z.K) (augMul dx dy h) Q := p
    unfold augMul at p
    split at p
    · cases rx; cases ry
      split at p
      · rename_i i j hb
        refine .inl ⟨_, _, rfl, rfl, ?_, p.here R (.int _)⟩
        rw [Bool.or_eq_true] at hb
        rcases hb with hb | hb
        · exact .inl (big64_inv hb)
        · exact .inr (big64_inv hb)
      · exact p.elim
    · cases rx; cases ry
      split at p
      · rename_i a k c
        have q := p.here R (.str _)
        exact .inr ⟨_, _, rfl, rfl, mulOk_str c.1 c.2.1 c.2.2, by rw [strMul_eq]; exact q⟩
      · exact p.elim
    · exact p.elim
  | _ => exact no

/-! ### the mirror -/
def isCompE : Expr → Bool
  | .ListComp _ _ _ _ | .SetComp _ _ _ _ | .DictComp _ _ _ _ _ => true
  | _ => false
def asgM (a : ME) : Option MG → MS
  | some g => mAsg a g
  | none => mStNo
def parIx (c : C) (l : Nat) : List Expr → Option (List (Str × Nat))
  | [] => some []
  | .Name x p :: r => if c.sc.names.lookup x = some .local ∧ p.line = l then (ixOf x c.N 0).bind fun i => (parIx c l r).map fun q => (x, i) :: q else none
  | _ :: _ => none
def parM (c : C) (E : Expr → EvR) (ts vs : List Expr) : MS := match ts, vs with
  | [.Name x px, .Name y py], [a, b] => if c.sc.names.lookup x = some .local ∧ c.sc.names.lookup y = some .local ∧ py.line = px.line ∧ x ≠ y ∧ isStar a = false ∧ isStar b = false ∧ [a, b].all (constantsAlone 8) = false then
      (match ixOf x c.N 0, ixOf y c.N 0 with
      | some i, some j => mPar [i, j] [(E a).e, (E b).e]
      | _, _ => mStNo) else mStNo
  | [.Name x px, .Name y py, .Name z pz], [a, b, d] => if (c.sc.names.lookup x = some .local ∧ c.sc.names.lookup y = some .local ∧ c.sc.names.lookup z = some .local ∧ py.line = px.line ∧ pz.line = px.line) ∧ (x ≠ y ∧ x ≠ z ∧ y ≠ z) ∧
      (isStar a = false ∧ isStar b = false ∧ isStar d = false ∧ [a, b, d].all (constantsAlone 8) = false) then
      (match ixOf x c.N 0, ixOf y c.N 0, ixOf z c.N 0 with
      | some i, some j, some k => mPar [i, j, k] [(E a).e, (E b).e, (E d).e]
      | _, _, _ => mStNo) else mStNo
  | _, _ => mStNo
def asgTup (c : C) (E : Expr → EvR) (t v : Expr) (vs : List Expr) : MS := match t with
  | .Tuple ts _ _ => if vs.all (foldedForSure 8) || ts.any (fun e => !isName e) || (decide (ts.length ≠ 2) && decide (ts.length ≠ 3)) || ts.any (isCelN c.sc) then asgM (E v).e (evG E c none 9 t) else parM c E ts vs
  | t => if isName t || isSubE t then asgM (E v).e (evG E c none 9 t) else mStNo
def asgLc (c : C) (E : Expr → EvR) (t v : Expr) (vp : Pos) (scope : Scope) : MS := match t with
  | .Name y py => if c.sc.names.lookup y = some .local ∧ py.line = vp.line ∧ (scope.names.any fun p => p.1 == y && (p.2 == .local || p.2 == .cell)) = false then asgM (E v).e ((ixOf y c.N 0).map gNm) else mStNo
  | t => if isSubE t then asgM (E v).e (evG E c none 9 t) else mStNo
def evAsg (c : C) (E : Expr → EvR) (ts : List Expr) (v : Expr) : MS := match ts with
  | [t] => (match v with
    | .ListComp _ _ scope vp => asgLc c E t v vp scope
    | .Tuple vs _ _ => asgTup c E t v vs
    | v => if isCompE v || isStar t then mStNo else asgM (E v).e (evG E c none 9 t))
  | [t1, t2] => if isStar t1 || isStar t2 then mStNo else (match evG E c none 9 t1, evG E c none 9 t2 with
    | some g1, some g2 => mAsg2 (E v).e g1 g2
    | _, _ => mStNo)
  | _ => mStNo
def evFor (c : C) (E : Expr → EvR) (tg iter : Expr) (b : MS) : MS := if isSetE iter then mStNo else (match evG E c none 9 tg with
  | some g => mFor ((E iter).i (isTup tg)) g b
  | none => mStNo)
def evAug (c : C) (E : Expr → EvR) (t : Expr) (op : Operator) (e : Expr) : MS := match t with
  | .Name x _ => if tgOk c x then (match ixOf x c.N 0 with
    | some i => mAug i (opAug op) (E e).e
    | none => mStNo) else mStNo
  | _ => mStNo
def evS (E : Expr → EvR) (c : C) : Nat → Stmt → MS
  | 0, _ => mStNo
  | n + 1, s => match s with
    | .Return o _ => (match o with
      | some e => mRet (E e).e
      | none => mRetN)
    | .Expr e _ => if isCompE e then mStNo else mDrop (E e).e
    | .Assign ts v _ => evAsg c E ts v
    | .AugAssign t op e _ => evAug c E t op e
    | .If t a b _ => mIfS (E t).t (mBlock (a.map (evS E c n))) (mBlock (b.map (evS E c n)))
    | .While t b o _ => (match o with
      | [] => mWhile (E t).t (mBlock (b.map (evS E c n)))
      | _ :: _ => mStNo)
    | .For tg iter b o _ => (match o with
      | [] => evFor c E tg iter (mBlock (b.map (evS E c n)))
      | _ :: _ => mStNo)
    | .Pass _ => mNext
    | .Break _ => mBrk
    | .Continue _ => mCnt
    | _ => mStNo

section
variable {X : Cx} {Z : Zx} {lv : Nat} {c : C} {E : Expr → EvR}
theorem ps_no {s : Stmt} : PS X s (tMS Z mStNo) := ⟨fun _ _ _ _ _ _ h => let ⟨_, _, _, _, _, p⟩ := h; p.elim⟩
theorem ok_block {f : Stmt → MS} (h : ∀ s, PS X s (tMS Z (f s))) : ∀ {l : List Stmt}, PSs X l (tMS Z (mBlock (l.map f)))
  | [] => pss_nil.weak fun D st H q => s_next q
  | a :: r => (pss_cons (h a) (ok_block h)).weak fun D st H q => s_seq q
theorem plain_sw {v : Expr} {o : Option Expr} {l : Nat} {env : Env} (h : isCompE v = false) : swapsWith v o l env = pure false := by
  cases v <;> first | rfl | cases h
theorem one_target {t : Expr} {env : Env} (h : isStar t = false) : (assignEach [t] env).map (·.2) = [assign t env] := by
  rw [assignEach_cons h]
  rfl
theorem evG_star {n : Nat} {o : Option (List Nat)} {t : Expr} {m : MG} (h : evG E c o n t = some m) : isStar t = false := by
  cases n with
  | zero => cases h
  | succ n => cases t <;> first | rfl | cases h
theorem ok_asgM (g : Good X Z lv c) (hE : ∀ e, OkE X Z (E e) e) {t v : Expr} {pos : Pos} (hs : isCompE v = false ∨ isSubE t = true) (hw : swappedStores [t] v X.env = pure none) : PS X (.Assign [t] v pos) (tMS Z (asgM (E v).e (evG E c none 9 t))) := by
  cases e : evG E c none 9 t with
  | none => exact ps_no
  | some m =>
    refine (ps_asg (hE v).e (ok_tg g hE 9 t m e) ?_ hw (one_target (evG_star e))).weak fun D st H q => s_asg q
    show swapsWith v (some t) pos.line X.env = pure false
    rcases hs with h | h
    · exact plain_sw h
    · unfold isSubE at h
      split at h
      · unfold swapsWith
        cases v <;> rfl
      · cases h
theorem ok_parM (g : Good X Z lv c) (hE : ∀ e, OkE X Z (E e) e) {ts vs : List Expr} {k k2 : Nat} {p p2 pos : Pos} (hf : vs.all (foldedForSure 8) = false) : PS X (.Assign [.Tuple ts k p] (.Tuple vs k2 p2) pos) (tMS Z (parM c E ts vs)) := by
  have hn : X.N.Nodup := by rw [g.N]; exact g.nd
  have kd : X.env.scope.kind = .function := by rw [g.sc]; exact g.kd
  have neq : ∀ {x y : Str} {i j : Nat}, x ≠ y → ixOf x c.N 0 = some i → ixOf y c.N 0 = some j → i ≠ j := fun h e1 e2 z => by
    subst z
    have a := ixOf_get e1
    have b := ixOf_get e2
    rw [a] at b
    exact h (Option.some.inj b)
  unfold parM
  split
  · rename_i x px y py a b
    split
    · rename_i h
      obtain ⟨hx, hy, hl, hxy, ha, hb, hc⟩ := h
      split
      · rename_i i j ei ej
        rw [← g.sc] at hx hy
        have h1 : noStars [a, b] = true := by unfold noStars; simp [ha, hb]
        exact (ps_par g.calm hn (by rw [g.N]; exact ixOf_get ei) (by rw [g.N]; exact ixOf_get ej) (neq hxy ei ej) hx hy (ok_args h1 fun e _ => hE e) (sw_par kd hx hy hl hxy ha hb hf hc)).weak fun D st H q => s_par2 q
      · exact ps_no
    · exact ps_no
  · rename_i x px y py z pz a b d
    split
    · rename_i h
      obtain ⟨⟨hx, hy, hz, hl, hl2⟩, ⟨hxy, hxz, hyz⟩, ha, hb, hd, hc⟩ := h
      split
      · rename_i i j m ei ej em
        rw [← g.sc] at hx hy hz
        have h1 : noStars [a, b, d] = true := by unfold noStars; simp [ha, hb, hd]
        exact (ps_par3 g.calm hn (by rw [g.N]; exact ixOf_get ei) (by rw [g.N]; exact ixOf_get ej) (by rw [g.N]; exact ixOf_get em) (neq hxy ei ej) (neq hxz ei em) (neq hyz ej em) hx hy hz (ok_args h1 fun e _ => hE e)
          (sw_par3 kd hx hy hz hl hl2 hxy hxz hyz ha hb hd hf hc)).weak fun D st H q => s_par3 q
      · exact ps_no
    · exact ps_no
  · exact ps_no
end
end
end PyI
-- PyV
/-! PyV: .. every statement of the mirror; defs -/
namespace PyI
noncomputable section
open PySem PySem.Spec PyProof.Rows L2
section
variable {X : Cx} {Z : Zx} {lv : Nat} {c : C} {E : Expr → EvR}
theorem nameOrSub {t : Expr} (h : (isName t || isSubE t) = true) : isTup t = false ∧ (isName t = true ∨ isSubE t = true) := by
  cases t <;> first | exact ⟨rfl, .inl rfl⟩ | exact ⟨rfl, .inr rfl⟩ | cases h
theorem ok_asgTup (g : Good X Z lv c) (hE : ∀ e, OkE X Z (E e) e) {t : Expr} {vs : List Expr} {k : Nat} {p pos : Pos} : PS X (.Assign [t] (.Tuple vs k p) pos) (tMS Z (asgTup c E t (.Tuple vs k p) vs)) := by
  have gen : (isName t || isSubE t) = true → PS X (.Assign [t] (.Tuple vs k p) pos) (tMS Z (asgM (E (.Tuple vs k p)).e (evG E c none 9 t))) := fun h => ok_asgM g hE (.inl rfl) (sw_noTg (nameOrSub h).2)
  unfold asgTup
  split
  · rename_i ts k2 p2
    split
    · rename_i h
      refine ok_asgM g hE (.inl rfl) ?_
      simp only [Bool.or_eq_true, Bool.and_eq_true, decide_eq_true_eq] at h
      rcases h with ((h | h) | h) | h
      · exact sw_fold h
      · exact sw_sub h
      · exact sw_len h
      · exact sw_nloc (by rw [g.sc]; exact cel_loc h)
    · rename_i h
      simp only [Bool.or_eq_true, not_or] at h
      exact ok_parM g hE (by simpa using h.1.1.1)
  · split
    · rename_i h
      exact gen h
    · exact ps_no
theorem ok_setLc (g : Good X Z lv c) (hE : ∀ e, OkE X Z (E e) e) {E' : Expr → EvR} {scope : Scope} (hE' : ∀ X' Z', Good X' Z' lv (c.blk scope) → ∀ e, OkE X' Z' (E' e) e) {y : Str} {py vp pos : Pos} {i : Nat} {elt : Expr} {gens : List Comprehension}
    (hy : c.sc.names.lookup y = some .local) (hl : py.line = vp.line) (ha : (scope.names.any fun p => p.1 == y && (p.2 == .local || p.2 == .cell)) = false) (hi : ixOf y c.N 0 = some i) :
    PS X (.Assign [.Name y py] (.ListComp elt gens scope vp) pos) (tMS Z (mAsg (evLc E E' c elt gens scope).e (gNm i))) := by
  have hno : PS X (.Assign [.Name y py] (.ListComp elt gens scope vp) pos) (tMS Z (mAsg evNo.e (gNm i))) := ⟨fun _ _ _ _ _ _ h => let ⟨_, _, _, _, _, p⟩ := h; p.elim⟩
  refine lc_parts g (P := fun r => PS X (.Assign [.Name y py] (.ListComp elt gens scope vp) pos) (tMS Z (mAsg r.e (gNm i)))) hno fun tg iter ifs m hg hs hb hm => ?_
  subst hg
  have G := fun (s : Shared) (H : Hp) (L : Addr) (cl : List (Str × Addr)) (fp : List Addr) => g.blk (s := s) (H := H) (L := L) (cl := cl) (fp := fp) hb.kind
  rw [← g.sc] at hy
  refine (ps_setLc g.calm (by rw [g.N]; exact g.nd) (i := i) (by rw [g.N]; exact ixOf_get hi) hy (sw_true (by rw [g.sc]; exact g.kd) hy (by simpa using hl) ha) ((hE iter).i tg) (own := ownOf c.N scope.names) (by rw [g.N, g.sc]; exact hb)
    (fun s H L cl fp => ok_tg (G s H L cl fp) (hE' _ _ (G s H L cl fp)) 9 tg m hm) (fun s H L cl fp => ok_tests (hE' _ _ (G s H L cl fp))) (fun s H L cl fp => (hE' _ _ (G s H L cl fp) elt).e) (unset_fold hs)).weak fun D st H q => ?_
  have q := s_asg q
  show tLc _ _ _ _ _ st H _
  exact s_lc (tM.imp q fun v H1 q => s_gNm (o := none) rfl q)
theorem ok_asgLc {n : Nat} (g : Good X Z lv c) {t elt : Expr} {gens : List Comprehension} {scope : Scope} {vp pos : Pos} : PS X (.Assign [t] (.ListComp elt gens scope vp) pos) (tMS Z (asgLc c (ev (n + 1) c) t (.ListComp elt gens scope vp) vp scope)) := by
  unfold asgLc
  split
  · rename_i y py
    split
    · rename_i h
      cases e : ixOf y c.N 0 with
      | none => exact ps_no
      | some i => exact ok_setLc g (ev_ok n g) (fun X' Z' g' => ev_ok n g') h.1 h.2.1 h.2.2 e
    · exact ps_no
  · split
    · rename_i h
      refine ok_asgM g (ev_ok (n + 1) g) (.inr h) (sw_noTg (.inr h))
    · exact ps_no
theorem ok_asg {n : Nat} (g : Good X Z lv c) {ts : List Expr} {v : Expr} {pos : Pos} : PS X (.Assign ts v pos) (tMS Z (evAsg c (ev (n + 1) c) ts v)) := by
  have hE := ev_ok (n + 1) g
  unfold evAsg
  split
  · rename_i t
    split
    · exact ok_asgLc g
    · exact ok_asgTup g hE
    · rename_i n1 n2
      split
      · exact ps_no
      · rename_i h
        simp only [Bool.or_eq_true, not_or] at h
        refine ok_asgM g hE (.inl (by simpa using h.1)) (sw_noTup ?_)
        cases v <;> first | rfl | exact absurd rfl (n2 _ _ _)
  · rename_i t1 t2
    split
    · exact ps_no
    · rename_i h
      simp only [Bool.or_eq_true, not_or] at h
      split
      · rename_i g1 g2 e1 e2
        refine (ps_asg2 (hE v).e (ok_tg g hE 9 t1 g1 e1) (ok_tg g hE 9 t2 g2 e2) ?_ sw_two).weak fun D st H q => s_asg2 q
        rw [assignEach_cons (by simpa using h.1), assignEach_cons (by simpa using h.2)]
        rfl
      · exact ps_no
  · exact ps_no
theorem ok_s {n : Nat} (g : Good X Z lv c) (own : PassesOwn (model X.prog X.w) X.A X.env X.xe) : ∀ (m : Nat) (s : Stmt), PS X s (tMS Z (evS (ev (n + 1) c) c m s))
  | 0, s => ps_no
  | m + 1, s => by
    have hE := ev_ok (n + 1) g
    have ih := ok_s (n := n) g own m
    unfold evS
    split
    · split
      · exact (ps_ret (hE _).e).weak fun D st H q => s_ret q
      · exact ps_retN.weak fun D st H q => s_retN q
    · split
      · exact ps_no
      · rename_i h
        exact (ps_expr (hE _).e (plain_sw (by simpa using h))).weak fun D st H q => s_drop q
    · exact ok_asg g
    · rename_i t op e p
      unfold evAug
      split
      · split
        · rename_i ht
          split
          · rename_i i hi
            obtain ⟨r, h1, h2⟩ := opAug_ok X Z op
            obtain ⟨l1, l2⟩ := tgOk_ok g ht
            exact (ps_aug (i := i) (by rw [g.N]; exact g.nd) (by rw [g.N]; exact ixOf_get hi) l1 (hE _).e h1 l2).weak fun D st H q => s_aug h2 q
          · exact ps_no
        · exact ps_no
      · exact ps_no
    · exact (ps_if (hE _).t (ok_block ih) (ok_block ih)).weak fun D st H q => s_ifS q
    · split
      · exact (ps_while own (hE _).t (ok_block ih)).weak fun D st H q => s_while q
      · exact ps_no
    · split
      · unfold evFor
        split
        · exact ps_no
        · rename_i hs
          split
          · rename_i m' hm
            exact (ps_for own g.calm ((hE _).i _) (ok_tg g hE 9 _ m' hm) (ok_block ih) (unset_fold (by simpa using hs))).weak fun D st H q => s_for q
          · exact ps_no
      · exact ps_no
    · exact ps_pass.weak fun D st H q => s_next q
    · exact ps_break.weak fun D st H q => s_brk q
    · exact ps_continue.weak fun D st H q => s_cnt q
    · exact ps_no
end

/-! ### defs -/
structure DefI where
  name : Str
  ps : List Str
  N : List Str
  st : Stmt
def runB (m : MS) (n : Nat) (ds : List D) (h : DH) : Res D := match m (ds.map some ++ List.replicate (n - ds.length) none) h with
  | .nx _ h => .ok .non h
  | .rt d h => .ok d h
  | .ex x _ h => .exc x h
  | _ => .no
def cxD (G : List (Str × GV)) (B : List Str) (F : Nat → List D → DH → Res D) (d : DefI) : C := ⟨d.N, defScope d.st, G, B, F, fun _ => true⟩
def bodyM (G : List (Str × GV)) (B : List Str) (F : Nat → List D → DH → Res D) (d : DefI) : MS := mBlock ((defBody d.st).map (evS (ev 30 (cxD G B F d)) (cxD G B F d) 30))
/-- the defs by number; level by level -/
def Fs (G : List (Str × GV)) (B : List Str) (T : List DefI) : Nat → Nat → List D → DH → Res D
  | 0, _, _, _ => .no
  | n + 1, i, ds, h => match T[i]? with
    | some d => if ds.length = d.ps.length then runB (bodyM G B (Fs G B T n) d) d.N.length ds h else .no
    | none => .no
/-- what is known of the text behind the top -/
structure Txt (K : PySem.W.Frag) (mg : Str → Option Value) (G : List (Str × GV)) (B : List Str) (T : List DefI) : Prop where
  blt : ∀ x, B.contains x = true → mg x = none
  con : ∀ x d, G.lookup x = some (.con d) → ∃ u, mg x = some u ∧ ConOk K u d
  df : ∀ (i : Nat) (d : DefI), T[i]? = some d → ∃ f fd, Fun K d.name d.name d.st f fd ∧ FnScope d.N d.ps (defScope d.st) ∧ d.ps.length ≤ d.N.length
  fn : ∀ x i np sh, G.lookup x = some (.fn i np sh) → ∃ d : DefI, T[i]? = some d ∧ d.ps.length = np ∧ ∃ f fd, Fun K d.name d.name d.st f fd ∧ mg x = some (.ref f) ∧ ∀ n ks pm, findSh sh n ks = some pm → BindK K fd d.ps n ks pm.1 pm.2
theorem runB_post {Z : Zx} {io : List Addr} {H : Hp} {m : MS} {n : Nat} {ds : List D} {h : DH} {Q : VK} {E : XK} (e : Z.W = fun cl d _ H => E cl d H) (p : PostR ⟨Z.K, Z.Cs, fun c d _ H => E c d H⟩ io H [] (DRel Z.K) (runB m n ds h) Q) :
    PostS Z io H (m (ds.map some ++ List.replicate (n - ds.length) none) h) { nx := fun _ H' => Q .non H', rt := Q } := by
  unfold runB at p
  cases q : m (ds.map some ++ List.replicate (n - ds.length) none) h with
  | nx s h' => rw [q] at p; exact fun st H' jo u r1 r2 => p .non H' jo u r1 .non
  | rt d h' => rw [q] at p; exact p
  | ex x s h' =>
    rw [q] at p
    intro cls dd st H' jo u r1 r2 r3
    rw [e]
    exact p cls dd H' jo u r1 r3
  | bk s h' => rw [q] at p; exact p.elim
  | ct s h' => rw [q] at p; exact p.elim
  | no => rw [q] at p; exact p.elim
theorem EnvR.start {K : PySem.W.Frag} {io : List Addr} {H : Hp} {N : List Str} {vs : List V} {ds : List D} (r : DRels K io H vs ds) : EnvR K io H (L2.start N vs) (ds.map some ++ List.replicate (N.length - ds.length) none) := by
  have hl := r.length
  refine ⟨by unfold L2.start; simp [hl], fun i d e => ?_⟩
  unfold L2.start
  by_cases hi : i < ds.length
  · rw [List.getElem?_append_left (by simpa using hi), List.getElem?_map] at e
    obtain ⟨d', e1, e2⟩ := map_inv e
    cases e2
    obtain ⟨v, h1, h2⟩ := r.get e1
    refine ⟨v, ?_, h2⟩
    rw [List.getElem?_append_left (by simp; omega), List.getElem?_map, h1]
    rfl
  · rw [List.getElem?_append_right (by simp; omega), List.getElem?_replicate] at e
    split at e <;> cases e
/-- THE DEFS KEEP THE MIRROR'S PROMISES, level by level -/
theorem fs_ok {P : Program} {w : World} {K : PySem.W.Frag} {mg : Str → Option Value} {base : Heap} {Cs : List Addr} {G : List (Str × GV)} {B : List Str} {T : List DefI} (tx : Txt K mg G B T) :
    ∀ (n i : Nat) (d : DefI) (f : Addr) (fd : FuncData), T[i]? = some d → Fun K d.name d.name d.st f fd → FnG P w K mg base (L2.CX P w) n f fd d.ps (spM K Cs d.ps.length (Fs G B T n i))
  | 0, i, d, f, fd, ed, F => by
    refine ⟨fun vs H Q E h => ?_, fun A outer s H args us vs Q E _ _ _ _ _ h => ?_⟩
    · obtain ⟨io, ds, h0, _, _, _, p⟩ := h
      exact p.elim
    · obtain ⟨io, ds, h0, _, _, _, p⟩ := h
      exact p.elim
  | n + 1, i, d, f, fd, ed, F => by
    obtain ⟨_, _, _, S, hps⟩ := tx.df i d ed
    refine fnG_of F S (fun vs H Q E h => ?_) fun cdv A outer s H vs Q E gd room h => ?_
    · obtain ⟨io, ds, h0, _, _, l, p⟩ := h
      exact l
    · obtain ⟨io, ds, h0, hR, hds, hl, p⟩ := h
      have hl2 := hds.length
      have g : Good (cxOf (L2.CX P w) P w K mg base d.N d.name (defScope d.st) f cdv A outer s H E) ⟨K, Cs, fun c d _ H => E c d H⟩ n (cxD G B (Fs G B T n) d) :=
        { K := rfl, N := rfl, nd := S.nd, sc := rfl, kd := S.kind, calm := rfl, gd := gd, room := room, tk := takes_of rfl rfl rfl rfl, cw := fun _ h => h, blt := tx.blt, con := tx.con,
          fn := fun x j np sh hx => by
            obtain ⟨d', e1, e2, f', fd', F', hm, hb⟩ := tx.fn x j np sh hx
            refine ⟨f', fd', d'.ps, e2, hm, F'.kp, ?_, hb⟩
            subst e2
            exact fs_ok tx n j d' f' fd' e1 F' }
      refine ⟨_, ok_block (ok_s (n := 29) g PassesOwn.leaving 30), io, _, h0, hR, EnvR.start hds, ?_⟩
      have p : PostR ⟨K, Cs, fun c d _ H => E c d H⟩ io H [] (DRel K) (Fs G B T (n + 1) i ds h0) Q := p
      unfold Fs at p
      rw [ed] at p
      dsimp only at p
      rw [if_pos (by rw [← hl2]; exact hl)] at p
      exact runB_post (Z := ⟨K, Cs, fun c d _ H => E c d H⟩) rfl p
end
end PyI
-- PyW
/-! PyW: a law by its mirror -/
namespace PyI
noncomputable section
open PySem PySem.Spec PyProof.Rows L2
/-- the mirror answers True on every script -/
def Says (F : List D → DH → Res D) (n : Nat) : Prop := ∀ ns : List Int, ns.length ≤ n → ∃ h', F [.scr ns] [] = .ok (.bl true) h'
theorem says_asked {K : PySem.W.Frag} {Cs : List Addr} {F : List D → DH → Res D} {n : Nat} (s : Says F n) (H : Hp) (a : Addr) (ns : List Int) (h1 : ns.length ≤ n) (h2 : SqF K H a (ns.map V.int)) :
    spM K Cs 1 F [.ref a] H (fun v _ => v = .bl true) fun _ _ _ => False := by
  obtain ⟨h', e⟩ := s ns h1
  refine ⟨[], [.scr ns], [], ⟨rfl, List.nodup_nil, fun n o e => by simp at e⟩, .cons (.scr h2) .nil, rfl, ?_⟩
  rw [e]
  intro v H' jo _ _ r
  cases r
  rfl
theorem law_M {l : PySem.W.OpenLaw} {n k : Nat} {q : Program} {loose : List Str} {XP : (Str → Option Value) → Heap → Prop} {YP : World → Heap → Prop} {d : DefRec} {K : Params → PySem.W.Frag} {x : Str}
    {G : List (Str × GV)} {B : List Str} {T : List DefI} {i : Nat} {di : DefI}
    (most : l.most = some n) (small : n ≤ sizeLine) (plain : d.params.defaults = []) (room : Room k callerA) (hY : ∀ (w : World) (h : Heap), YP w h → (K w.params).In h)
    (hi : T[i]? = some di) (hps : di.ps = [x]) (says : Says (Fs G B T k i) n)
    (F : ∀ (w : World) (mg : Str → Option Value) (fa : Addr) (h : Heap), (K w.params).In h → h.Ns mainGlobals mg → mg d.name = some (.ref fa) →
      ∃ fd, (∀ (s : Shared) (u : Value), BindsTo s fd ⟨[u], []⟩ [(x, u)]) ∧ Fun (K w.params) di.name di.name di.st fa fd ∧ Txt (K w.params) mg G B T) :
    PySem.W.WalkO q loose XP YP l.row.toRowW d [] (fun f vs => PySem.call f vs) :=
  walk_G (k := k) (x := x) most small plain room fun w mg fa h Y glob hmg => by
    obtain ⟨fd, bind, fn, tx⟩ := F w mg fa h (hY w h Y) glob hmg
    refine ⟨K w.params, fd, spM (K w.params) [] di.ps.length (Fs G B T k i), hY w h Y, bind, fun H a ns h1 h2 _ => ?_, fun base _ _ => ?_⟩
    · rw [hps]
      exact says_asked says H a ns h1 h2
    · rw [← hps]
      exact fs_ok tx k i di fa fd hi fn
end
end PyI
namespace PyI
noncomputable section
open PySem PySem.Spec PyProof.Rows L2
/-! ### the text's facts, one by one -/
section
variable {K : PySem.W.Frag} {mg : Str → Option Value} {T : List DefI}
theorem blt_nil : ∀ x : Str, ([] : List Str).contains x = true → mg x = none := fun x h => by simp at h
theorem blt_cons {a : Str} {l : List Str} (h : mg a = none) (t : ∀ x : Str, l.contains x = true → mg x = none) : ∀ x : Str, (a :: l).contains x = true → mg x = none := fun x e => by
  rw [List.contains_cons, Bool.or_eq_true] at e
  rcases e with e | e
  · rw [show x = a by simpa using e]; exact h
  · exact t x e
theorem sh_nil {fd : FuncData} {ps : List Str} : ∀ (n : Nat) (ks : List Str) (pm : List Nat × List (Option Int)), findSh [] n ks = some pm → BindK K fd ps n ks pm.1 pm.2 := fun _ _ _ h => by cases h
theorem sh_cons {fd : FuncData} {ps : List Str} {n0 : Nat} {ks0 : List Str} {pm0 : List Nat × List (Option Int)} {r : List (Nat × List Str × List Nat × List (Option Int))} (h : BindK K fd ps n0 ks0 pm0.1 pm0.2) (t : ∀ (n : Nat) (ks : List Str) (pm : List Nat × List (Option Int)), findSh r n ks = some pm → BindK K fd ps n ks pm.1 pm.2) :
    ∀ (n : Nat) (ks : List Str) (pm : List Nat × List (Option Int)), findSh ((n0, ks0, pm0) :: r) n ks = some pm → BindK K fd ps n ks pm.1 pm.2 := fun n ks pm e => by
  unfold findSh at e
  split at e
  · rename_i q
    cases e
    rw [← q.1, ← q.2]
    exact h
  · exact t n ks pm e
/-- one entry of the names -/
def Entry (K : PySem.W.Frag) (mg : Str → Option Value) (T : List DefI) (x : Str) : GV → Prop
  | .con d => ∃ u, mg x = some u ∧ ConOk K u d
  | .fn i np sh => ∃ d : DefI, T[i]? = some d ∧ d.ps.length = np ∧ ∃ f fd, Fun K d.name d.name d.st f fd ∧ mg x = some (.ref f) ∧ ∀ n ks pm, findSh sh n ks = some pm → BindK K fd d.ps n ks pm.1 pm.2
def Entries (K : PySem.W.Frag) (mg : Str → Option Value) (T : List DefI) : List (Str × GV) → Prop
  | [] => True
  | p :: r => Entry K mg T p.1 p.2 ∧ Entries K mg T r
theorem entry_of {x : Str} {gv : GV} : ∀ {l : List (Str × GV)}, Entries K mg T l → l.lookup x = some gv → Entry K mg T x gv
  | p :: r, h, e => by
    rw [List.lookup_cons] at e
    split at e
    · rename_i q
      cases e
      rw [show x = p.1 by simpa using q]
      exact h.1
    · exact entry_of h.2 e
def DefsOk (K : PySem.W.Frag) : List DefI → Prop
  | [] => True
  | d :: r => (∃ f fd, Fun K d.name d.name d.st f fd ∧ FnScope d.N d.ps (defScope d.st) ∧ d.ps.length ≤ d.N.length) ∧ DefsOk K r
theorem defs_of : ∀ {l : List DefI} {i : Nat} {d : DefI}, DefsOk K l → l[i]? = some d → ∃ f fd, Fun K d.name d.name d.st f fd ∧ FnScope d.N d.ps (defScope d.st) ∧ d.ps.length ≤ d.N.length
  | _ :: _, 0, d, h, e => by
    simp at e
    subst e
    exact h.1
  | _ :: r, i + 1, d, h, e => defs_of h.2 (by simpa using e)
theorem txt_of {G : List (Str × GV)} {B : List Str} (h1 : ∀ x : Str, B.contains x = true → mg x = none) (h2 : Entries K mg T G) (h3 : DefsOk K T) : Txt K mg G B T where
  blt := h1
  con := fun x d e => entry_of h2 e
  df := fun i d e => defs_of h3 e
  fn := fun x i np sh e => entry_of h2 e
theorem con_int {x : Str} {i : Int} {t : Tok} (h : mg x = some (.int i t)) : Entry K mg T x (.con (.int i)) := ⟨_, h, ⟨.int i, ⟨t, rfl⟩, fun _ _ => .int i⟩, fun _ e => nomatch e⟩
theorem con_tup {x : Str} {a : Addr} {L : List D} {its : Array Value} {vs : List V} {n : Nat} {sl : Array (Option Value)} (h : mg x = some (.ref a)) (k : K.lookup a = some ⟨.type "tuple", none, .seq its n, sl⟩) (hz : its.size ≤ sizeLine) (hv : Vals vs its.toList)
    (hd : ∀ io H, DRels K io H vs L) : Entry K mg T x (.con (.tup L)) := ⟨_, h, ⟨.ref a, rfl, fun io H => .tup (.inr ⟨_, its, n, k, rfl, rfl, hz, hv⟩) (hd io H)⟩, fun _ e => by cases e; exact ⟨a, vs, rfl, ⟨_, its, n, k, rfl, rfl, rfl, hz, hv⟩, hd⟩⟩
theorem con_str {x y : Str} {t : Tok} (h : mg x = some (.str y t)) : Entry K mg T x (.con (.str y)) := ⟨_, h, ⟨.str y, ⟨t, rfl⟩, fun _ _ => .str y⟩, fun _ e => nomatch e⟩
end
end
end PyI
-- PyX
/-! PyX: a calculus of wishes for the mirror (plain Lean from here on) -/
namespace PyI
noncomputable section
open PySem PySem.Spec L2

def wpR {α : Type} (r : Res α) (Q : α → DH → Prop) (E : Exn → DH → Prop) : Prop := match r with
  | .ok a h => Q a h
  | .exc x h => E x h
  | .no => False
structure Pst where
  nx : DS → DH → Prop
  rt : D → DH → Prop
  bk : DS → DH → Prop
  ct : DS → DH → Prop
  ex : Exn → DS → DH → Prop
def wpS (r : SR) (P : Pst) : Prop := match r with
  | .nx s h => P.nx s h
  | .rt d h => P.rt d h
  | .bk s h => P.bk s h
  | .ct s h => P.ct s h
  | .ex x s h => P.ex x s h
  | .no => False
def gEx (r : Option (DS × DH)) (k : DS → DH → Prop) : Prop := match r with
  | some p => k p.1 p.2
  | none => False
section
variable {α β : Type} {Q Q' : α → DH → Prop} {E : Exn → DH → Prop} {P P' : Pst} {s : DS} {h : DH}
theorem wpR_mono {r : Res α} (w : wpR r Q E) (q : ∀ a h, Q a h → Q' a h) : wpR r Q' E := by
  cases r with
  | ok a h => exact q a h w
  | exc x h => exact w
  | no => exact w
theorem wpS_mono {r : SR} (w : wpS r P) (h1 : ∀ s h, P.nx s h → P'.nx s h) (h2 : ∀ s h, P.rt s h → P'.rt s h) (h3 : ∀ s h, P.bk s h → P'.bk s h) (h4 : ∀ s h, P.ct s h → P'.ct s h) (h5 : ∀ x s h, P.ex x s h → P'.ex x s h) : wpS r P' := by
  cases r with
  | nx s h => exact h1 _ _ w
  | rt s h => exact h2 _ _ w
  | bk s h => exact h3 _ _ w
  | ct s h => exact h4 _ _ w
  | ex x s h => exact h5 _ _ _ w
  | no => exact w
theorem wpR_ex {r : Res α} (w : wpR r Q fun _ _ => False) : ∃ a h, r = .ok a h ∧ Q a h := by
  cases r with
  | ok a h => exact ⟨a, h, rfl, w⟩
  | exc x h => exact w.elim
  | no => exact w.elim
@[simp] theorem wpR_ok {a : α} : wpR (.ok a h) Q E = Q a h := rfl
@[simp] theorem wpR_exc {x : Exn} : wpR (.exc x h) Q E = E x h := rfl
@[simp] theorem wpR_no : wpR .no Q E = False := rfl
@[simp] theorem wpR_bind {r : Res β} {f : β → DH → Res α} : wpR (r.bind f) Q E = wpR r (fun a h => wpR (f a h) Q E) E := by cases r <;> rfl
@[simp] theorem wpR_ite {c : Prop} [Decidable c] {a b : Res α} : wpR (if c then a else b) Q E = if c then wpR a Q E else wpR b Q E := by split <;> rfl
@[simp] theorem wpS_nx : wpS (.nx s h) P = P.nx s h := rfl
@[simp] theorem wpS_rt {d : D} : wpS (.rt d h) P = P.rt d h := rfl
@[simp] theorem wpS_no : wpS .no P = False := rfl
@[simp] theorem wpS_ite {c : Prop} [Decidable c] {a b : SR} : wpS (if c then a else b) P = if c then wpS a P else wpS b P := by split <;> rfl
@[simp] theorem wpS_bindS {r : Res α} {f : α → DH → SR} : wpS (bindS r s f) P = wpR r (fun a h => wpS (f a h) P) (fun x h => P.ex x s h) := by cases r <;> rfl
@[simp] theorem gEx_some {p : DS × DH} {k : DS → DH → Prop} : gEx (some p) k = k p.1 p.2 := rfl
@[simp] theorem gEx_none {k : DS → DH → Prop} : gEx none k = False := rfl
/-! ### statements -/
@[simp] theorem w_seq {a b : MS} : wpS (mSeq a b s h) P = wpS (a s h) { P with nx := fun s h => wpS (b s h) P } := by
  unfold mSeq
  cases a s h <;> rfl
@[simp] theorem w_next : wpS (mNext s h) P = P.nx s h := rfl
@[simp] theorem w_stNo : wpS (mStNo s h) P = False := rfl
@[simp] theorem w_asg {a : ME} {g : MG} : wpS (mAsg a g s h) P = wpR (a s h) (fun d h1 => gEx (g d s h1) P.nx) (fun x h => P.ex x s h) := by
  unfold mAsg
  rw [wpS_bindS]
  congr
  funext d h1
  cases g d s h1 <;> rfl
@[simp] theorem w_drop {a : ME} : wpS (mDrop a s h) P = wpR (a s h) (fun _ h1 => P.nx s h1) (fun x h => P.ex x s h) := by
  unfold mDrop
  rw [wpS_bindS]
  rfl
@[simp] theorem w_ret {a : ME} : wpS (mRet a s h) P = wpR (a s h) (fun d h1 => P.rt d h1) (fun x h => P.ex x s h) := by
  unfold mRet
  rw [wpS_bindS]
  rfl
@[simp] theorem w_retN : wpS (mRetN s h) P = P.rt .non h := rfl
@[simp] theorem w_brk : wpS (mBrk s h) P = P.bk s h := rfl
@[simp] theorem w_cnt : wpS (mCnt s h) P = P.ct s h := rfl
@[simp] theorem w_ifS {t : MT} {a b : MS} : wpS (mIfS t a b s h) P = wpR (t s h) (fun k h1 => if k = true then wpS (a s h1) P else wpS (b s h1) P) (fun x h => P.ex x s h) := by
  unfold mIfS
  rw [wpS_bindS]
  congr
  funext k h1
  cases k <;> rfl
@[simp] theorem w_aug {i : Nat} {f : D → D → DH → Res D} {a : ME} : wpS (mAug i f a s h) P = match s[i]? with
    | some (some x) => wpR (a s h) (fun y h1 => wpR (f x y h1) (fun z h2 => P.nx (s.set i (some z)) h2) (fun x h => P.ex x s h)) (fun x h => P.ex x s h)
    | _ => False := by
  unfold mAug
  cases s[i]? with
  | none => rfl
  | some o =>
    cases o with
    | none => rfl
    | some x =>
      dsimp only
      rw [wpS_bindS]
      congr
      funext y h1
      rw [wpS_bindS]
      rfl
@[simp] theorem w_par {ix : List Nat} {l : List ME} : wpS (mPar ix l s h) P = wpR (mArgs l s h) (fun ds h1 => if ds.length = ix.length then P.nx ((ix.zip ds).foldl (fun s p => s.set p.1 (some p.2)) s) h1 else False) (fun x h => P.ex x s h) := by
  unfold mPar
  rw [wpS_bindS]
  congr
  funext ds h1
  rw [wpS_ite]
  rfl
@[simp] theorem w_asg2 {a : ME} {g1 g2 : MG} : wpS (mAsg2 a g1 g2 s h) P = wpR (a s h) (fun d h1 => gEx (g1 d s h1) fun s1 h2 => gEx (g2 d s1 h2) P.nx) (fun x h => P.ex x s h) := by
  unfold mAsg2
  rw [wpS_bindS]
  congr
  funext d h1
  cases g1 d s h1 with
  | none => rfl
  | some p =>
    show wpS (match g2 d p.1 p.2 with | some (s2, h3) => SR.nx s2 h3 | none => .no) P = _
    cases e : g2 d p.1 p.2 with
    | none => simp [gEx, e]
    | some q => simp [gEx, e]
@[simp] theorem w_for {src : MI} {g : MG} {b : MS} : wpS (mFor src g b s h) P = wpR (src s h) (fun it h1 => wpS (forGo it g b fuel 0 s h1) P) (fun x h => P.ex x s h) := by
  unfold mFor
  rw [wpS_bindS]
@[simp] theorem w_while {t : MT} {b : MS} : wpS (mWhile t b s h) P = wpS (whGo t b fuel s h) P := rfl
/-! ### targets -/
@[simp] theorem g_nm {i : Nat} {d : D} : gNm i d s h = some (s.set i (some d), h) := rfl
@[simp] theorem g_tp {l : List MG} {ds : List D} : gTp l (.tup ds) s h = if ds.length = l.length then gsM l ds s h else none := rfl
@[simp] theorem g_nil : gsM [] [] s h = some (s, h) := rfl
@[simp] theorem g_cons {m : MG} {r : List MG} {d : D} {ds : List D} : gsM (m :: r) (d :: ds) s h = (m d s h).bind fun q => gsM r ds q.1 q.2 := rfl
@[simp] theorem gEx_bind {r : Option (DS × DH)} {f : DS × DH → Option (DS × DH)} {k : DS → DH → Prop} : gEx (r.bind f) k = gEx r fun s h => gEx (f (s, h)) k := by cases r <;> rfl
/-! ### values -/
variable {QD : D → DH → Prop} {QB : Bool → DH → Prop} {QA : List D → DH → Prop} {QO : Option Int → DH → Prop} {QI : IS → DH → Prop} {a b c : ME}
@[simp] theorem w_lit {d : D} : wpR (mLit d s h) QD E = QD d h := rfl
theorem wpR_match {o : Option (Option D)} {h : DH} : wpR (match o with | some (some d) => Res.ok d h | _ => .no) QD E = match o with | some (some d) => QD d h | _ => False := by
  split <;> rfl
@[simp] theorem w_var {i : Nat} : wpR (mVar i s h) QD E = match s[i]? with | some (some d) => QD d h | _ => False := wpR_match
@[simp] theorem w_bin {f : D → D → DH → Res D} : wpR (mBin f a b s h) QD E = wpR (a s h) (fun x h1 => wpR (b s h1) (fun y h2 => wpR (f x y h2) QD E) E) E := by
  unfold mBin
  simp only [wpR_bind]
@[simp] theorem w_neg : wpR (mNeg a s h) QD E = wpR (a s h) (fun x h1 => match x with | .int i => QD (.int (-i)) h1 | _ => False) E := by
  unfold mNeg
  rw [wpR_bind]
  congr
  funext x h1
  cases x <;> rfl
@[simp] theorem w_asB {r : Res D} : wpR (asB r) QB E = wpR r (fun x h1 => match x with | .bl k => QB k h1 | _ => False) E := by
  unfold asB
  rw [wpR_bind]
  congr
  funext x h1
  cases x <;> rfl
@[simp] theorem w_notE : wpR (mNotE a s h) QD E = wpR (a s h) (fun x h1 => match x with | .bl k => QD (.bl (!k)) h1 | _ => False) E := by
  unfold mNotE
  simp only [wpR_bind, w_asB, wpR_ok]
@[simp] theorem w_andE0 : wpR (mAndE [a] s h) QD E = wpR (a s h) QD E := rfl
@[simp] theorem w_andE {m : ME} {r : List ME} : wpR (mAndE (a :: m :: r) s h) QD E = wpR (a s h) (fun x h1 => match x with | .bl k => if k = true then wpR (mAndE (m :: r) s h1) QD E else QD (.bl false) h1 | _ => False) E := by
  show wpR ((asB (a s h)).bind fun b h1 => if b then mAndE (m :: r) s h1 else .ok (.bl false) h1) QD E = _
  simp only [wpR_bind, w_asB, wpR_ite, wpR_ok]
@[simp] theorem w_orE0 : wpR (mOrE [a] s h) QD E = wpR (a s h) QD E := rfl
@[simp] theorem w_orE {m : ME} {r : List ME} : wpR (mOrE (a :: m :: r) s h) QD E = wpR (a s h) (fun x h1 => match x with | .bl k => if k = true then QD (.bl true) h1 else wpR (mOrE (m :: r) s h1) QD E | _ => False) E := by
  show wpR ((asB (a s h)).bind fun b h1 => if b then .ok (.bl true) h1 else mOrE (m :: r) s h1) QD E = _
  simp only [wpR_bind, w_asB, wpR_ite, wpR_ok]
variable {t u : MT}
@[simp] theorem w_andT0 : wpR (mAndT [t] s h) QB E = wpR (t s h) QB E := rfl
@[simp] theorem w_andT {r : List MT} : wpR (mAndT (t :: u :: r) s h) QB E = wpR (t s h) (fun k h1 => if k = true then wpR (mAndT (u :: r) s h1) QB E else QB false h1) E := by
  show wpR ((t s h).bind fun b h1 => if b then mAndT (u :: r) s h1 else .ok false h1) QB E = _
  simp only [wpR_bind, wpR_ite, wpR_ok]
@[simp] theorem w_orT0 : wpR (mOrT [t] s h) QB E = wpR (t s h) QB E := rfl
@[simp] theorem w_orT {r : List MT} : wpR (mOrT (t :: u :: r) s h) QB E = wpR (t s h) (fun k h1 => if k = true then QB true h1 else wpR (mOrT (u :: r) s h1) QB E) E := by
  show wpR ((t s h).bind fun b h1 => if b then .ok true h1 else mOrT (u :: r) s h1) QB E = _
  simp only [wpR_bind, wpR_ite, wpR_ok]
@[simp] theorem w_notT : wpR (mNotT t s h) QB E = wpR (t s h) (fun k h1 => QB (!k) h1) E := by
  unfold mNotT
  simp only [wpR_bind, wpR_ok]
@[simp] theorem w_mB : wpR (mB a s h) QB E = wpR (a s h) (fun x h1 => match x with | .bl k => QB k h1 | _ => False) E := w_asB
@[simp] theorem w_mTru : wpR (mTru a s h) QB E = wpR (a s h) (fun x h1 => match truOf x h1 with | some k => QB k h1 | none => False) E := by
  unfold mTru
  rw [wpR_bind]
  congr
  funext x h1
  cases truOf x h1 <;> rfl
@[simp] theorem w_chain {f g : D → D → DH → Res D} : wpR (mChain f g a b c s h) QD E = wpR (a s h) (fun x h1 => wpR (b s h1) (fun y h2 => wpR (f x y h2) (fun k h3 => match k with
    | .bl k => if k = true then wpR (c s h3) (fun z h4 => wpR (g y z h4) QD E) E else QD (.bl false) h3
    | _ => False) E) E) E := by
  unfold mChain
  simp only [wpR_bind, w_asB, wpR_ite, wpR_ok]
@[simp] theorem w_if : wpR (mIf t a b s h) QD E = wpR (t s h) (fun k h1 => if k = true then wpR (a s h1) QD E else wpR (b s h1) QD E) E := by
  unfold mIf
  simp only [wpR_bind, wpR_ite]
@[simp] theorem w_args0 : wpR (mArgs [] s h) QA E = QA [] h := rfl
@[simp] theorem w_args {r : List ME} : wpR (mArgs (a :: r) s h) QA E = wpR (a s h) (fun x h1 => wpR (mArgs r s h1) (fun xs h2 => QA (x :: xs) h2) E) E := by
  show wpR ((a s h).bind fun x h1 => (mArgs r s h1).bind fun xs h2 => .ok (x :: xs) h2) QA E = _
  simp only [wpR_bind, wpR_ok]
@[simp] theorem w_tup {l : List ME} : wpR (mTup l s h) QD E = wpR (mArgs l s h) (fun xs h1 => if xs.length ≤ 16777216 then QD (.tup xs) h1 else False) E := by
  unfold mTup
  simp only [wpR_bind, wpR_ite, wpR_ok, wpR_no]
@[simp] theorem w_lst {l : List ME} : wpR (mLst l s h) QD E = wpR (mArgs l s h) (fun xs h1 => if xs.length ≤ 16777216 then QD (.ref h1.length) (h1 ++ [.lst xs]) else False) E := by
  unfold mLst
  simp only [wpR_bind, wpR_ite, wpR_ok, wpR_no]
@[simp] theorem w_part : wpR (mPart a s h) QO E = wpR (a s h) (fun x h1 => match x with | .int i => QO (some i) h1 | _ => False) E := by
  unfold mPart
  rw [wpR_bind]
  congr
  funext x h1
  cases x <;> rfl
@[simp] theorem w_oNone : wpR (oNone s h) QO E = QO none h := rfl
@[simp] theorem w_sl {lo hi : MO} : wpR (mSl a lo hi s h) QD E = wpR (a s h) (fun x h1 => wpR (lo s h1) (fun l h2 => wpR (hi s h2) (fun u h3 => wpR (opSl x l u h3) QD E) E) E) E := by
  unfold mSl
  simp only [wpR_bind]
@[simp] theorem w_blt {k : Blt} {l : List ME} : wpR (mBlt k l s h) QD E = wpR (mArgs l s h) (fun xs h1 => wpR (bltF k xs h1) QD E) E := by
  unfold mBlt
  simp only [wpR_bind]
@[simp] theorem w_meth {nm : Str} {l : List ME} : wpR (mMeth nm a l s h) QD E = wpR (a s h) (fun x h1 => match mthOf nm x h1 with
    | some m => wpR (mArgs l s h1) (fun xs h2 => wpR (mthF m x xs h2) QD E) E
    | none => False) E := by
  unfold mMeth
  rw [wpR_bind]
  congr
  funext x h1
  cases mthOf nm x h1 with
  | none => rfl
  | some m => simp only [wpR_bind]
@[simp] theorem w_call {F : List D → DH → Res D} {np n m : Nat} {pm : List Nat} {l lk : List ME} : wpR (mCallK F np n m pm l lk s h) QD E = wpR (mArgs l s h) (fun xs h1 => wpR (mArgs lk s h1) (fun zs h2 => if xs.length = n ∧ zs.length = m then (match pickL pm (xs ++ zs) with
    | some ys => if ys.length = np then wpR (F ys h2) QD E else False
    | none => False) else False) E) E := by
  unfold mCallK
  simp only [wpR_bind, wpR_ite, wpR_no]
  congr
  funext xs h1
  congr
  funext zs h2
  split
  · cases pickL pm (xs ++ zs) with
    | none => rfl
    | some ys => simp
  · rfl
@[simp] theorem w_lstRg {l : List ME} : wpR (mLstRg l s h) QD E = wpR (mArgs l s h) (fun xs h1 => match rgArg xs with
    | some p => if rgOk p.1 p.2 = true then QD (.ref h1.length) (h1 ++ [.lst (rgD p.1 p.2)]) else False
    | none => False) E := by
  unfold mLstRg
  rw [wpR_bind]
  congr
  funext xs h1
  cases rgArg xs with
  | none => rfl
  | some p => simp
@[simp] theorem w_tupRg {l : List ME} : wpR (mTupRg l s h) QD E = wpR (mArgs l s h) (fun xs h1 => match rgArg xs with
    | some p => if rgOk p.1 p.2 = true then QD (.tup (rgD p.1 p.2)) h1 else False
    | none => False) E := by
  unfold mTupRg
  rw [wpR_bind]
  congr
  funext xs h1
  cases rgArg xs with
  | none => rfl
  | some p => simp
@[simp] theorem w_retI {o : Option IS} : wpR (retI o h) QI E = match o with | some i => QI i h | none => False := by cases o <;> rfl
@[simp] theorem w_retD {o : Option D} : wpR (retD o h) QD E = match o with | some i => QD i h | none => False := by cases o <;> rfl
@[simp] theorem w_retB {o : Option Bool} : wpR (retB o h) QD E = match o with | some i => QD (.bl i) h | none => False := by cases o <;> rfl
@[simp] theorem w_plain : wpR (iPlain a s h) QI E = wpR (a s h) (fun x h1 => match srcOf x h1 with | some i => QI i h1 | none => False) E := by
  unfold iPlain
  simp only [wpR_bind, w_retI]
@[simp] theorem w_range {f : List D → Option IS} {l : List ME} : wpR (iRange f l s h) QI E = wpR (mArgs l s h) (fun xs h1 => match f xs with | some i => QI i h1 | none => False) E := by
  unfold iRange
  simp only [wpR_bind, w_retI]
@[simp] theorem w_enum : wpR (iEnumM a s h) QI E = wpR (a s h) (fun x h1 => match enumOf h1 x with | some i => QI i h1 | none => False) E := by
  unfold iEnumM
  simp only [wpR_bind, w_retI]
@[simp] theorem w_zip : wpR (iZipM a b s h) QI E = wpR (a s h) (fun x h1 => wpR (b s h1) (fun y h2 => match zipOf h2 x y with | some i => QI i h2 | none => False) E) E := by
  unfold iZipM
  simp only [wpR_bind, w_retI]
@[simp] theorem w_revM : wpR (iRevM a s h) QI E = wpR (a s h) (fun x h1 => match revOf h1 x with | some i => QI i h1 | none => False) E := by
  unfold iRevM
  simp only [wpR_bind, w_retI]
@[simp] theorem w_lc {src : MI} {g : MG} {e : ME} {vs : List Nat} : wpR (mLc src g t e vs s h) QD E = wpR (src s h) (fun it h1 => wpR (lcGo it g t e (wipeD s vs) fuel 0 [] h1) (fun xs h2 => QD (.ref h2.length) (h2 ++ [.lst xs])) E) E := by
  unfold mLc
  simp only [wpR_bind, wpR_ok]
@[simp] theorem w_tYes : wpR (tYesM s h) QB E = QB true h := rfl
/-! ### defs -/
@[simp] theorem w_run {m : MS} {n : Nat} {ds : List D} : wpR (runB m n ds h) QD E = wpS (m (ds.map some ++ List.replicate (n - ds.length) none) h) { nx := fun _ h => QD .non h, rt := QD, bk := fun _ _ => False, ct := fun _ _ => False, ex := fun x _ h => E x h } := by
  unfold runB
  cases m (ds.map some ++ List.replicate (n - ds.length) none) h <;> rfl
end
theorem fs_step {G : List (Str × GV)} {B : List Str} {T : List DefI} {n i : Nat} {d : DefI} {b : MS} {ds : List D} {h : DH} (hT : T[i]? = some d) (hl : ds.length = d.ps.length) (e : bodyM G B (Fs G B T n) d = b) : Fs G B T (n + 1) i ds h = runB b d.N.length ds h := by
  show (match T[i]? with | some d => if ds.length = d.ps.length then runB (bodyM G B (Fs G B T n) d) d.N.length ds h else .no | none => .no) = _
  rw [hT]
  dsimp only
  rw [if_pos hl, e]

@[simp] theorem pick_nil {α : Type} {xs : List α} : pickL [] xs = some [] := rfl
@[simp] theorem pick_cons {α : Type} {j : Nat} {r : List Nat} {xs : List α} : pickL (j :: r) xs = xs[j]?.bind fun x => (pickL r xs).map fun ys => x :: ys := rfl
@[simp] theorem wipe_nil {s : DS} : wipeD s [] = s := rfl
@[simp] theorem wipe_cons {s : DS} {v : Nat} {r : List Nat} : wipeD s (v :: r) = (wipeD s r).set v none := rfl
@[simp] theorem rg_one {j : Int} : rgArg [.int j] = some (0, j) := rfl
@[simp] theorem rg_two {i j : Int} : rgArg [.int i, .int j] = some (i, j) := rfl
@[simp] theorem rn_one {j : Int} : rngOf1 [.int j] = if smallI j then some (isRng 0 1 j.toNat) else none := rfl
@[simp] theorem rn_two {i j : Int} : rngOf2 [.int i, .int j] = if smallI i && smallI j then some (isRng i 1 (j - i).toNat) else none := rfl

/-! ### loops -/
section
variable {src : IS} {g : MG} {b : MS} {P : Pst}
theorem for_gen {n : Nat} (It : Nat → DH → D → Prop) (Inv : Nat → DS → DH → Prop) (item : ∀ i s h, i < n → Inv i s h → ∃ d, itemAt src i h = some (some d) ∧ It i h d) (stop : ∀ s h, Inv n s h → itemAt src n h = some none) 
    (hs : ∀ i d s h, i < n → Inv i s h → It i h d → gEx (g d s h) fun s1 h1 => wpS (b s1 h1) { P with nx := Inv (i + 1), ct := Inv (i + 1), bk := P.nx }) (hd : ∀ s h, Inv n s h → P.nx s h) :
    ∀ (m i : Nat) (s : DS) (h : DH), n < m + i → i ≤ n → Inv i s h → wpS (forGo src g b m i s h) P
  | 0, i, s, h, h1, h2, _ => by omega
  | m + 1, i, s, h, h1, h2, inv => by
    unfold forGo
    by_cases hi : i < n
    · obtain ⟨d, e1, e2⟩ := item i s h hi inv
      rw [e1]
      dsimp only
      have q := hs i d s h hi inv e2
      cases eg : g d s h with
      | none => rw [eg] at q; exact q.elim
      | some p =>
        rw [eg] at q
        dsimp only
        have q : wpS (b p.1 p.2) { P with nx := Inv (i + 1), ct := Inv (i + 1), bk := P.nx } := q
        cases eb : b p.1 p.2 with
        | nx s2 h2 => rw [eb] at q; exact for_gen It Inv item stop hs hd m (i + 1) s2 h2 (by omega) (by omega) q
        | ct s2 h2 => rw [eb] at q; exact for_gen It Inv item stop hs hd m (i + 1) s2 h2 (by omega) (by omega) q
        | bk s2 h2 => rw [eb] at q; exact q
        | rt d h2 => rw [eb] at q; exact q
        | ex x s2 h2 => rw [eb] at q; exact q
        | no => rw [eb] at q; exact q.elim
    · have e : i = n := by omega
      subst e
      rw [stop s h inv]
      exact hd s h inv
/-- over told items -/
theorem for_fix {n : Nat} {f : Nat → D} (Inv : Nat → DS → DH → Prop) {s : DS} {h : DH} (h0 : Inv 0 s h) (hn : n < 1000000)
    (hs : ∀ i s h, i < n → Inv i s h → gEx (g (f i) s h) fun s1 h1 => wpS (b s1 h1) { P with nx := Inv (i + 1), ct := Inv (i + 1), bk := P.nx }) (hd : ∀ s h, Inv n s h → P.nx s h) : wpS (forGo (.fix n f) g b fuel 0 s h) P :=
  for_gen (n := n) (fun i _ d => d = f i) Inv (fun i s h hi _ => ⟨f i, by simp [itemAt, hi], rfl⟩) (fun s h _ => by simp [itemAt]) (fun i d s h hi inv e => by subst e; exact hs i s h hi inv) hd fuel 0 s h (by rw [fuel_eq]; omega) (Nat.zero_le _) h0
theorem for_seq {ds : List D} (Inv : Nat → DS → DH → Prop) {s : DS} {h : DH} (h0 : Inv 0 s h) (hn : ds.length < 1000000)
    (hs : ∀ i d s h, ds[i]? = some d → Inv i s h → gEx (g d s h) fun s1 h1 => wpS (b s1 h1) { P with nx := Inv (i + 1), ct := Inv (i + 1), bk := P.nx }) (hd : ∀ s h, Inv ds.length s h → P.nx s h) : wpS (forGo (isSeq ds) g b fuel 0 s h) P :=
  for_fix Inv h0 hn (fun i s h hi inv => hs i _ s h (by rw [List.getD_eq_getElem?_getD, List.getElem?_eq_getElem hi]; rfl) inv) hd
/-- over a list as it stands: every state of the loop tells its items -/
theorem for_lst {k : Nat} {xs : List D} (Inv : Nat → DS → DH → Prop) {s : DS} {h : DH} (h0 : Inv 0 s h) (hn : xs.length < 1000000) (hl : ∀ i s h, i ≤ xs.length → Inv i s h → h[k]? = some (.lst xs))
    (hs : ∀ i d s h, xs[i]? = some d → Inv i s h → gEx (g d s h) fun s1 h1 => wpS (b s1 h1) { P with nx := Inv (i + 1), ct := Inv (i + 1), bk := P.nx }) (hd : ∀ s h, Inv xs.length s h → P.nx s h) : wpS (forGo (.lst k) g b fuel 0 s h) P :=
  for_gen (n := xs.length) (fun i _ d => xs[i]? = some d) Inv (fun i s h hi inv => ⟨xs[i], by simp [itemAt, lstAt, hl i s h (by omega) inv, hi], by simp [hi]⟩) (fun s h inv => by simp [itemAt, lstAt, hl _ s h (Nat.le_refl _) inv]) (fun i d s h hi inv e => hs i d s h e inv) hd fuel 0 s h (by rw [fuel_eq]; omega) (Nat.zero_le _) h0
variable {t : MT} {e : ME} {s0 : DS} {QA : List D → DH → Prop} {E : Exn → DH → Prop}
theorem lc_gen {n : Nat} (It : Nat → DH → D → Prop) (Inv : Nat → List D → DH → Prop) (item : ∀ i a h, i < n → Inv i a h → ∃ d, itemAt src i h = some (some d) ∧ It i h d) (stop : ∀ a h, Inv n a h → itemAt src n h = some none)
    (hs : ∀ i d a h, i < n → Inv i a h → It i h d → gEx (g d s0 h) fun s1 h1 => wpR (t s1 h1) (fun k h2 => if k = true then wpR (e s1 h2) (fun y h3 => a.length < 16777216 ∧ Inv (i + 1) (a ++ [y]) h3) (fun _ _ => False) else Inv (i + 1) a h2) fun _ _ => False)
    (hd : ∀ a h, Inv n a h → QA a h) : ∀ (m i : Nat) (a : List D) (h : DH), n < m + i → i ≤ n → Inv i a h → wpR (lcGo src g t e s0 m i a h) QA E
  | 0, i, a, h, h1, h2, _ => by omega
  | m + 1, i, a, h, h1, h2, inv => by
    unfold lcGo
    by_cases hi : i < n
    · obtain ⟨d, e1, e2⟩ := item i a h hi inv
      rw [e1]
      dsimp only
      have q := hs i d a h hi inv e2
      cases eg : g d s0 h with
      | none => rw [eg] at q; exact q.elim
      | some p =>
        rw [eg] at q
        dsimp only
        have q : wpR (t p.1 p.2) (fun k h2 => if k = true then wpR (e p.1 h2) (fun y h3 => a.length < 16777216 ∧ Inv (i + 1) (a ++ [y]) h3) (fun _ _ => False) else Inv (i + 1) a h2) (fun _ _ => False) := q
        obtain ⟨k, h2', et, q⟩ := wpR_ex q
        rw [et]
        cases k with
        | true =>
          rw [if_pos rfl] at q
          obtain ⟨y, h3, ee, q⟩ := wpR_ex q
          dsimp only
          rw [ee]
          dsimp only
          rw [if_pos q.1]
          exact lc_gen It Inv item stop hs hd m (i + 1) _ h3 (by omega) (by omega) q.2
        | false =>
          rw [if_neg Bool.false_ne_true] at q
          exact lc_gen It Inv item stop hs hd m (i + 1) a h2' (by omega) (by omega) q
    · have e : i = n := by omega
      subst e
      rw [stop a h inv]
      exact hd a h inv
theorem lc_fix {n : Nat} {f : Nat → D} (Inv : Nat → List D → DH → Prop) {h : DH} (h0 : Inv 0 [] h) (hn : n < 1000000)
    (hs : ∀ i a h, i < n → Inv i a h → gEx (g (f i) s0 h) fun s1 h1 => wpR (t s1 h1) (fun k h2 => if k = true then wpR (e s1 h2) (fun y h3 => a.length < 16777216 ∧ Inv (i + 1) (a ++ [y]) h3) (fun _ _ => False) else Inv (i + 1) a h2) fun _ _ => False)
    (hd : ∀ a h, Inv n a h → QA a h) : wpR (lcGo (.fix n f) g t e s0 fuel 0 [] h) QA E :=
  lc_gen (n := n) (fun i _ d => d = f i) Inv (fun i s h hi _ => ⟨f i, by simp [itemAt, hi], rfl⟩) (fun s h _ => by simp [itemAt]) (fun i d a h hi inv e => by subst e; exact hs i a h hi inv) hd fuel 0 [] h (by rw [fuel_eq]; omega) (Nat.zero_le _) h0
/-- a comprehension over items that are known: filter p, then map v; J is kept of the heap -/
theorem lc_seq {ds : List D} (J : DH → Prop) (p : D → Bool) (v : D → D) {h : DH} (h0 : J h) (hn : ds.length < 1000000)
    (hs : ∀ d h, d ∈ ds → J h → gEx (g d s0 h) fun s1 h1 => wpR (t s1 h1) (fun k h2 => k = p d ∧ (if k = true then wpR (e s1 h2) (fun y h3 => y = v d ∧ J h3) (fun _ _ => False) else J h2)) fun _ _ => False)
    (hd : ∀ h, J h → QA ((ds.filter p).map v) h) : wpR (lcGo (isSeq ds) g t e s0 fuel 0 [] h) QA E := by
  refine lc_fix (fun i a h => a = ((ds.take i).filter p).map v ∧ J h) ⟨by simp, h0⟩ hn (fun i a h hi inv => ?_) fun a h inv => ?_
  · obtain ⟨rfl, j⟩ := inv
    have eq : ds.getD i .non = ds[i] := by rw [List.getD_eq_getElem?_getD, List.getElem?_eq_getElem hi]; rfl
    have tk : ds.take (i + 1) = ds.take i ++ [ds[i]] := by rw [List.take_add_one, List.getElem?_eq_getElem hi]; rfl
    have q := hs ds[i] h (List.getElem_mem hi) j
    rw [eq]
    cases eg : g ds[i] s0 h with
    | none => rw [eg] at q; exact q.elim
    | some r =>
      rw [eg] at q
      refine wpR_mono q fun k h2 z => ?_
      obtain ⟨rfl, z⟩ := z
      split
      · rename_i hp
        rw [if_pos hp] at z
        refine wpR_mono z fun y h3 z => ?_
        obtain ⟨rfl, z⟩ := z
        refine ⟨?_, ?_, z⟩
        · have a1 := List.length_filter_le p (ds.take i)
          have a2 := List.length_take_le i ds
          rw [List.length_map]
          have := List.length_take (i := i) (l := ds)
          omega
        · rw [tk, List.filter_append, List.filter_cons_of_pos hp, List.map_append]
          rfl
      · rename_i hp
        rw [if_neg hp] at z
        refine ⟨?_, z⟩
        rw [tk, List.filter_append, List.filter_cons_of_neg hp]
        simp
  · obtain ⟨rfl, j⟩ := inv
    rw [List.take_length]
    exact hd h j
end
end
end PyI
-- PyY
/-! PyY: the operators at known values; the helper defs of the laws -/
namespace PyI
noncomputable section
open PySem PySem.Spec L2
section
variable {s : DS} {h : DH} {E : Exn → DH → Prop}
@[simp] theorem g_sub {a b : ME} {d : D} {k : DS → DH → Prop} : gEx (gSubM a b d s h) k = wpR (a s h) (fun o h1 => wpR (b s h1) (fun i h2 => match setIx h2 o i d with | some h3 => k s h3 | none => False) fun _ _ => False) fun _ _ => False := by
  unfold gSubM
  cases a s h with
  | no => rfl
  | exc x h => rfl
  | ok o h1 =>
    show gEx ((okOf (b s h1)).bind fun q => (setIx q.2 o q.1 d).map fun h3 => (s, h3)) k = wpR (b s h1) (fun i h2 => match setIx h2 o i d with | some h3 => k s h3 | none => False) fun _ _ => False
    cases b s h1 with
    | no => rfl
    | exc x h => rfl
    | ok i h2 =>
      show gEx ((setIx h2 o i d).map fun h3 => (s, h3)) k = match setIx h2 o i d with | some h3 => k s h3 | none => False
      cases setIx h2 o i d <;> rfl
@[simp] theorem o_add {i j : Int} : opB .Add (.int i) (.int j) h = .ok (.int (i + j)) h := rfl
@[simp] theorem o_sub {i j : Int} : opB .Sub (.int i) (.int j) h = .ok (.int (i - j)) h := rfl
@[simp] theorem o_mul {i j : Int} : opB .Mult (.int i) (.int j) h = if mulOk i j then .ok (.int (i * j)) h else .no := rfl
@[simp] theorem o_mod {i j : Int} : opB .Mod (.int i) (.int j) h = if 0 < j then .ok (.int (i % j)) h else .no := rfl
@[simp] theorem o_div {i j : Int} : opB .FloorDiv (.int i) (.int j) h = if 0 < j ∧ j.natAbs.log2 < 9000 then .ok (.int (i / j)) h else .no := rfl
@[simp] theorem o_pow {i j : Int} : opB .Pow (.int i) (.int j) h = if powOk i j then .ok (.int (i ^ j.toNat)) h else .no := rfl
@[simp] theorem o_cat {a b : List D} : opB .Add (.tup a) (.tup b) h = if a.length + b.length ≤ 16777216 then .ok (.tup (a ++ b)) h else .no := rfl
@[simp] theorem o_catL {m n : Nat} : opB .Add (.ref m) (.ref n) h = match h[m]?, h[n]? with
    | some (.lst a), some (.lst b) => if a.length + b.length ≤ 16777216 then .ok (.ref h.length) (h ++ [.lst (a ++ b)]) else .no
    | _, _ => .no := rfl
@[simp] theorem c_lt {i j : Int} : opC .Lt (.int i) (.int j) h = .ok (.bl (decide (i < j))) h := rfl
@[simp] theorem c_le {i j : Int} : opC .LtE (.int i) (.int j) h = .ok (.bl (decide (i ≤ j))) h := rfl
@[simp] theorem c_gt {i j : Int} : opC .Gt (.int i) (.int j) h = .ok (.bl (decide (j < i))) h := rfl
@[simp] theorem c_ge {i j : Int} : opC .GtE (.int i) (.int j) h = .ok (.bl (decide (j ≤ i))) h := rfl
@[simp] theorem c_eq {i j : Int} : opC .Eq (.int i) (.int j) h = .ok (.bl (decide (i = j))) h := rfl
@[simp] theorem c_ne {i j : Int} : opC .NotEq (.int i) (.int j) h = .ok (.bl (!decide (i = j))) h := rfl
@[simp] theorem c_eqS {i j : Str} : opC .Eq (.str i) (.str j) h = .ok (.bl (decide (i = j))) h := rfl
@[simp] theorem c_neS {i j : Str} : opC .NotEq (.str i) (.str j) h = .ok (.bl (!decide (i = j))) h := rfl
@[simp] theorem b_divmod {i j : Int} : bltF .divmod [.int i, .int j] h = if 0 < j ∧ j < hid 1267650600228229401496703205376 then .ok (.tup [.int (i / j), .int (i % j)]) h else .no := rfl
@[simp] theorem b_abs {i : Int} : bltF .abs [.int i] h = .ok (.int (if i < 0 then -i else i)) h := rfl
@[simp] theorem b_max {i j : Int} : bltF .max [.int i, .int j] h = .ok (.int (if j > i then j else i)) h := rfl
@[simp] theorem b_min {i j : Int} : bltF .min [.int i, .int j] h = .ok (.int (if j < i then j else i)) h := rfl
@[simp] theorem b_lenT {xs : List D} : bltF .len [.tup xs] h = .ok (.int xs.length) h := rfl
@[simp] theorem b_lenS {xs : List Int} : bltF .len [.scr xs] h = .ok (.int xs.length) h := by
  show retD (some (.int ((xs.map D.int).length : Nat))) h = _
  rw [List.length_map]
  rfl
@[simp] theorem b_lenR {n : Nat} : bltF .len [.ref n] h = match h[n]? with | some (.lst xs) => .ok (.int xs.length) h | _ => .no := by
  show retD ((match h[n]? with | some (.lst xs) => some xs | _ => (none : Option (List D))).map fun (l : List D) => D.int (l.length : Nat)) h = _
  generalize h[n]? = o
  cases o with
  | none => rfl
  | some o => cases o <;> rfl
@[simp] theorem b_isinst {x : D} {n : String} : bltF .isinst [x, .ty n] h = retD ((isi h x n).map .bl) h := rfl
@[simp] theorem b_tupR {n : Nat} : bltF .tuple [.ref n] h = match h[n]? with | some (.lst xs) => .ok (.tup xs) h | _ => .no := by
  show retD ((match h[n]? with | some (.lst xs) => some xs | _ => (none : Option (List D))).map D.tup) h = _
  generalize h[n]? = o
  cases o with
  | none => rfl
  | some o => cases o <;> rfl
@[simp] theorem b_listT {xs : List D} : bltF .list [.tup xs] h = .ok (.ref h.length) (h ++ [.lst xs]) := rfl
@[simp] theorem x_T {xs : List D} {i : Int} : opI (.tup xs) (.int i) h = retD (atI xs i) h := rfl
@[simp] theorem x_S {xs : List Int} {i : Int} : opI (.scr xs) (.int i) h = retD (atI (xs.map D.int) i) h := rfl
@[simp] theorem x_R {n : Nat} {i : Int} : opI (.ref n) (.int i) h = retD (match h[n]? with | some (.lst xs) => atI xs i | _ => none) h := by
  show retD ((match h[n]? with | some (.lst xs) => some xs | _ => (none : Option (List D))).bind fun (l : List D) => atI l i) h = _
  generalize h[n]? = o
  cases o with
  | none => rfl
  | some o => cases o <;> rfl
@[simp] theorem t_bl {k : Bool} : truOf (.bl k) h = some k := rfl
@[simp] theorem t_int {i : Int} : truOf (.int i) h = some (i != 0) := rfl
end

/-! ### the pool and the draw -/
/-- a list of three ints: the state (below the prime), the digits, the counter -/
structure Pool (h : DH) (n : Nat) : Prop where
  ex : ∃ a b c : Int, h[n]? = some (.lst [.int a, .int b, .int c]) ∧ 0 ≤ a ∧ a < 2147483399 ∧ 0 ≤ b
/-- what stands but at n stands; new things may come -/
structure Fr (n : Nat) (h h' : DH) : Prop where
  le : h.length ≤ h'.length
  old : ∀ j o, j ≠ n → h[j]? = some o → h'[j]? = some o
theorem Fr.refl {n : Nat} {h : DH} : Fr n h h := ⟨Nat.le_refl _, fun _ _ _ e => e⟩
theorem Fr.trans {n : Nat} {h h1 h2 : DH} (a : Fr n h h1) (b : Fr n h1 h2) : Fr n h h2 := ⟨Nat.le_trans a.le b.le, fun j o hj e => b.old j o hj (a.old j o hj e)⟩
theorem Fr.set {n : Nat} {h : DH} {o : O} : Fr n h (h.set n o) := ⟨by simp, fun j u hj e => by rw [List.getElem?_set_ne (Ne.symm hj)]; exact e⟩
theorem Fr.app {n : Nat} {h l : DH} : Fr n h (h ++ l) := ⟨by simp, fun j u hj e => by rw [List.getElem?_append_left (List.getElem?_eq_some_iff.mp e).1]; exact e⟩
theorem Pool.fr {n m : Nat} {h h' : DH} (p : Pool h n) (f : Fr m h h') (hm : n ≠ m) : Pool h' n := let ⟨a, b, c, e, r⟩ := p.ex; ⟨a, b, c, f.old n _ hm e, r⟩
theorem Pool.app {n : Nat} {h l : DH} (p : Pool h n) : Pool (h ++ l) n := let ⟨a, b, c, e, r⟩ := p.ex; ⟨a, b, c, by rw [List.getElem?_append_left (List.getElem?_eq_some_iff.mp e).1]; exact e, r⟩
theorem at0 {x y z : D} : atI [x, y, z] 0 = some x := rfl
theorem at1 {x y z : D} : atI [x, y, z] 1 = some y := rfl
theorem at2 {x y z : D} : atI [x, y, z] 2 = some z := rfl
theorem ix0 : ixN 3 0 = some 0 := rfl
theorem ix1 : ixN 3 1 = some 1 := rfl
theorem ix2 : ixN 3 2 = some 2 := rfl
theorem mulA {a : Int} (b : Int) (h0 : 0 ≤ a) (h1 : a < 2147483399) : mulOk a b = true := by
  unfold mulOk
  rw [hid_eq]
  simp only [Bool.or_eq_true, Bool.and_eq_true, decide_eq_true_eq]
  left; left; omega
theorem mulL {a : Int} (b : Int) (h0 : -18446744073709551616 < a) (h1 : a < 18446744073709551616) : mulOk a b = true := by
  unfold mulOk
  rw [hid_eq]
  simp only [Bool.or_eq_true, Bool.and_eq_true, decide_eq_true_eq]
  left; left; omega

/-! ### the helper defs -/
def h_draw : MS := (mSeq (mAsg (mBin (opB .Add) (mBin opI (mVar 0) (mLit (.int 2))) (mLit (.int 1))) (gSubM (mVar 0) (mLit (.int 2)))) (mSeq (mAsg (mBin opI (mVar 0) (mLit (.int 0))) (gNm 2)) (mSeq (mAsg (mBin (opB .Mod) (mBin (opB .Add) (mBin (opB .Mult) (mVar 2) (mBin (opB .Add) (mBin (opB .Mod) (mVar 2) (mLit (.int 40961))) (mLit (.int 30029)))) (mBin (opB .Mult) (mLit (.int 70003)) (mBin opI (mVar 0) (mLit (.int 2))))) (mLit (.int 2147483399))) (gSubM (mVar 0) (mLit (.int 0)))) (mSeq (mIfS (mB (mBin (opC .Gt) (mBin opI (mVar 0) (mLit (.int 1))) (mLit (.int 0)))) (mSeq (mAsg (mBlt .divmod [mBin opI (mVar 0) (mLit (.int 1)), mVar 1]) (gTp [gSubM (mVar 0) (mLit (.int 1)), gNm 3])) (mSeq (mRet (mVar 3)) mNext)) mNext) (mSeq (mRet (mBin (opB .Mod) (mBin (opB .FloorDiv) (mBin opI (mVar 0) (mLit (.int 0))) (mLit (.int 64))) (mVar 1))) mNext)))))
def h_cell : MS := (mSeq (mIfS (mB (mBin (opC .Lt) (mVar 1) (mBlt .len [mVar 0]))) (mSeq (mRet (mBin opI (mVar 0) (mVar 1))) mNext) mNext) (mSeq (mAsg (mBin (opB .Mod) (mBin (opB .Mult) (mLit (.int 70003)) (mBin (opB .Add) (mBin (opB .Add) (mBin (opB .Mult) (mVar 1) (mVar 1)) (mBin (opB .Mult) (mLit (.int 11)) (mVar 1))) (mLit (.int 7)))) (mLit (.int 2147483399))) (gNm 2)) (mSeq (mFor (iPlain (mSl (mVar 0) oNone (mPart (mLit (.int 3))))) (gNm 3) (mSeq (mAsg (mBin (opB .Mod) (mBin (opB .Add) (mBin (opB .Mult) (mVar 2) (mLit (.int 39119))) (mVar 3)) (mLit (.int 2147483399))) (gNm 2)) mNext)) (mSeq (mRet (mVar 2)) mNext))))
def h_pool : MS := (mSeq (mAsg (mIf (mOrT [mB (mBin (opC .Lt) (mVar 0) (mLit (.int 0))), mB (mBin (opC .GtE) (mVar 0) (mBin (opB .Pow) (mLit (.int 10)) (mLit (.int 18))))]) (mBlt .abs [mVar 0]) (mLit (.int 0))) (gNm 1)) (mSeq (mRet (mLst [mBin (opB .Mod) (mVar 0) (mLit (.int 2147483399)), mVar 1, mLit (.int 0)])) mNext))
def h_heights (D1 : List D → DH → Res D) : MS := (mSeq (mAsg (mCallK D1 2 2 0 [0, 1] [mVar 0, mLit (.int 4)] []) (gNm 2)) (mSeq (mIfS (mB (mBin (opC .Eq) (mVar 2) (mLit (.int 0)))) (mSeq (mRet (mLstRg [mLit (.int 1), mBin (opB .Add) (mVar 1) (mLit (.int 1))])) mNext) mNext) (mSeq (mIfS (mB (mBin (opC .Eq) (mVar 2) (mLit (.int 1)))) (mSeq (mRet (mLstRg [mBin (opB .Sub) (mLit (.int 1000)) (mVar 1), mLit (.int 1000)])) mNext) mNext) (mSeq (mAsg (mLstRg [mLit (.int 1), mLit (.int 1000)]) (gNm 3)) (mSeq (mRet (mBlt .sorted [mLc (iRange rngOf1 [mVar 1]) (gNm 4) tYesM (mMeth "pop" (mVar 3) [mCallK D1 2 2 0 [0, 1] [mVar 0, mBlt .len [mVar 3]] []]) [4]])) mNext)))))
def h_row (D1 H1 : List D → DH → Res D) : MS := (mSeq (mPar [4, 5] [mCallK H1 2 2 0 [0, 1] [mVar 0, mBin (opB .Add) (mVar 1) (mCallK D1 2 2 0 [0, 1] [mVar 0, mBin (opB .Add) (mBin (opB .Sub) (mVar 2) (mVar 1)) (mLit (.int 1))] [])] [], mLst []]) (mSeq (mFor (iRange rngOf1 [mBlt .len [mVar 4]]) (gNm 3) (mSeq (mDrop (mMeth "append" (mVar 5) [mMeth "pop" (mVar 4) [mCallK D1 2 2 0 [0, 1] [mVar 0, mBlt .len [mVar 4]] []]])) mNext)) (mSeq (mRet (mBlt .tuple [mVar 5])) mNext)))
/-- what a draw gives -/
def DrawOk (F : List D → DH → Res D) : Prop := ∀ (h : DH) (n : Nat) (k : Int), Pool h n → 1 ≤ k → k < 1073741824 → wpR (F [.ref n, .int k] h) (fun d h' => ∃ r, d = .int r ∧ 0 ≤ r ∧ r < k ∧ Pool h' n ∧ Fr n h h' ∧ h'.length = h.length) fun _ _ => False
theorem draw_ok {h : DH} {n : Nat} {k : Int} (p : Pool h n) (h1 : 1 ≤ k) (h2 : k < 1073741824) :
    wpR (runB h_draw 4 [.ref n, .int k] h) (fun d h' => ∃ r, d = .int r ∧ 0 ≤ r ∧ r < k ∧ Pool h' n ∧ Fr n h h' ∧ h'.length = h.length) fun _ _ => False := by
  obtain ⟨a, b, c, e, a0, a1, b0⟩ := p.ex
  have hn : n < h.length := (List.getElem?_eq_some_iff.mp e).1
  have hs : ∀ x, (h.set n x)[n]? = some x := fun x => List.getElem?_set_self hn
  have z0 : 0 ≤ (a * (a % 40961 + 30029) + 70003 * (c + 1)) % 2147483399 := Int.emod_nonneg _ (by decide)
  have z1 : (a * (a % 40961 + 30029) + 70003 * (c + 1)) % 2147483399 < 2147483399 := Int.emod_lt_of_pos _ (by decide)
  simp [h_draw, e, at0, at1, at2, setIx, ix0, ix1, ix2, hs, mulA, a0, a1, mulL]
  split
  · refine ⟨⟨by omega, by rw [hid_eq]; omega⟩, Int.emod_nonneg _ (by omega), Int.emod_lt_of_pos _ (by omega), ⟨_, _, _, hs _, z0, z1, Int.ediv_nonneg b0 (by omega)⟩, Fr.set⟩
  · exact ⟨by decide +kernel, by omega, Int.emod_nonneg _ (by omega), Int.emod_lt_of_pos _ (by omega), ⟨_, _, _, hs _, z0, z1, b0⟩, Fr.set⟩
theorem pool_ok {h : DH} {i : Int} : wpR (runB h_pool 2 [.int i] h) (fun d h' => d = .ref h.length ∧ Pool h' h.length ∧ ∃ o, h' = h ++ [o]) fun _ _ => False := by
  have q : powOk 10 18 = true := by
    unfold powOk
    rw [hid_eq]
    decide +kernel
  have z0 : 0 ≤ i % 2147483399 := Int.emod_nonneg _ (by decide)
  have z1 : i % 2147483399 < 2147483399 := Int.emod_lt_of_pos _ (by decide)
  have g : ∀ b c : Int, 0 ≤ b → Pool (h ++ [.lst [.int (i % 2147483399), .int b, .int c]]) h.length := fun b c hb => ⟨_, b, c, by simp, z0, z1, hb⟩
  simp [h_pool, q]
  split
  · exact g _ _ (by omega)
  · split
    · exact g _ _ (by omega)
    · exact g _ _ (Int.le_refl _)
theorem atI_nat {α : Type} {xs : List α} {i : Nat} {x : α} (h : xs[i]? = some x) : atI xs (i : Int) = some x := by
  have hi : i < xs.length := (List.getElem?_eq_some_iff.mp h).1
  unfold atI ixN
  rw [if_pos (by omega), if_pos (by omega)]
  simpa using h
theorem cut_head {α : Type} (xs : List α) (k : Nat) : cutL xs none (some (k : Int)) = xs.take k := by
  unfold cutL
  rw [HT.sIx_none, HT.sIx_nat, List.drop_zero, Nat.sub_zero]
  by_cases h : k ≤ xs.length
  · rw [Nat.min_eq_left h]
  · rw [Nat.min_eq_right (by omega), List.take_length, List.take_of_length_le (by omega)]
theorem sl_scr {h : DH} {ns : List Int} : opSl (.scr ns) none (some 3) h = .ok (.ref h.length) (h ++ [.lst ((ns.take 3).map D.int)]) := by
  show Res.ok (D.ref h.length) (h ++ [O.lst (cutL (ns.map D.int) none (some ((3 : Nat) : Int)))]) = _
  rw [cut_head, List.map_take]
@[simp] theorem srcR {h : DH} {n : Nat} : srcOf (.ref n) h = if isLst h n then some (.lst n) else none := rfl
@[simp] theorem srcT {h : DH} {xs : List D} : srcOf (.tup xs) h = some (isSeq xs) := rfl
theorem isLst_of {h : DH} {n : Nat} {xs : List D} (e : h[n]? = some (.lst xs)) : isLst h n = true := by
  unfold isLst
  rw [e]
theorem cell_rest {h : DH} {ns : List Int} {i m : Int} : wpS ((mSeq (mFor (iPlain (mSl (mVar 0) oNone (mPart (mLit (.int 3))))) (gNm 3) (mSeq (mAsg (mBin (opB .Mod) (mBin (opB .Add) (mBin (opB .Mult) (mVar 2) (mLit (.int 39119))) (mVar 3)) (mLit (.int 2147483399))) (gNm 2)) mNext)) (mSeq (mRet (mVar 2)) mNext)) [some (.scr ns), some (.int i), some (.int (m % 2147483399)), none] h)
    { nx := fun _ _ => False, rt := fun d h' => ∃ i, d = .int i ∧ ∃ l, h' = h ++ l, bk := fun _ _ => False, ct := fun _ _ => False, ex := fun _ _ _ => False } := by
  have hl : isLst (h ++ [.lst ((ns.take 3).map D.int)]) h.length = true := isLst_of (xs := (ns.take 3).map D.int) (by simp)
  simp only [w_seq, w_for, w_plain, w_sl, w_part, w_oNone, w_lit, w_var, List.getElem?_cons_zero, sl_scr, wpR_ok, srcR, hl, if_true]
  refine for_lst (xs := (ns.take 3).map D.int) (fun j s h' => h' = h ++ [.lst ((ns.take 3).map D.int)] ∧ ∃ m v, s = [some (.scr ns), some (.int i), some (.int (m % 2147483399)), v]) ⟨rfl, m, none, rfl⟩ (by simp; omega) (fun j s h' _ inv => ?_) (fun j d s h' hd inv => ?_) fun s h' inv => ?_
  · rw [inv.1]
    simp
  · obtain ⟨rfl, m, v, rfl⟩ := inv
    rw [List.getElem?_map] at hd
    obtain ⟨z, hz, rfl⟩ := map_inv hd
    have z0 : 0 ≤ m % 2147483399 := Int.emod_nonneg _ (by decide)
    have z1 : m % 2147483399 < 2147483399 := Int.emod_lt_of_pos _ (by decide)
    generalize m % 2147483399 = q at z0 z1
    simp [mulA, z0, z1]
    exact ⟨_, rfl⟩
  · obtain ⟨rfl, m, v, rfl⟩ := inv
    simp
theorem cell_ok {h : DH} {ns : List Int} {i : Int} (h0 : 0 ≤ i) (h1 : i < 1000) : wpR (runB h_cell 4 [.scr ns, .int i] h) (fun d h' => ∃ i, d = .int i ∧ ∃ l, h' = h ++ l) fun _ _ => False := by
  have m1 : mulOk i i = true := mulL _ (by omega) (by omega)
  unfold h_cell
  rw [w_run, w_seq, w_ifS]
  simp only [w_mB, w_bin, w_var, w_blt, w_args, w_args0, b_lenS, wpR_ok, c_lt, List.map_cons, List.map_nil, List.length_cons, List.length_nil, List.cons_append, List.nil_append, List.getElem?_cons_succ, List.getElem?_cons_zero, decide_eq_true_eq]
  split
  · rename_i hlt
    have hk : i.toNat < ns.length := by omega
    have e : atI (ns.map D.int) i = some (.int (ns[i.toNat]'hk)) := by
      have e1 : (ns.map D.int)[i.toNat]? = some (.int (ns[i.toNat]'hk)) := by rw [List.getElem?_map, List.getElem?_eq_getElem hk]; rfl
      have := atI_nat e1
      rwa [show ((i.toNat : Nat) : Int) = i by omega] at this
    simp [e]
  · simp only [w_next, w_seq, w_asg]
    simp [m1, mulL]
    have := cell_rest (h := h) (ns := ns) (i := i) (m := 70003 * (i * i + 11 * i + 7))
    simpa using this
end
end PyI
-- PvA
/-! PvA: lists as values: data U, the relation to the mirror's heap, who owns a list -/
namespace PyI
noncomputable section
open PySem PySem.Spec L2

inductive U where
  | non | bl (b : Bool) | int (i : Int) | str (x : Str) | tup (xs : List U) | scr (ns : List Int) | rng (lo hi : Int) | ty (n : String) | lst (xs : List U) | edi
  deriving Inhabited
mutual
inductive URel (X : Nat → Prop) (h : DH) : D → U → Prop
  | non : URel X h .non .non
  | bl (b : Bool) : URel X h (.bl b) (.bl b)
  | int (i : Int) : URel X h (.int i) (.int i)
  | str (x : Str) : URel X h (.str x) (.str x)
  | scr (x : List Int) : URel X h (.scr x) (.scr x)
  | rng (x y : Int) : URel X h (.rng x y) (.rng x y)
  | ty (x : String) : URel X h (.ty x) (.ty x)
  | tup {ds : List D} {us : List U} : URels X h ds us → URel X h (.tup ds) (.tup us)
  | lst {n : Nat} {ds : List D} {us : List U} : ¬ X n → h[n]? = some (.lst ds) → URels X h ds us → URel X h (.ref n) (.lst us)
  | edi {n : Nat} : ¬ X n → h[n]? = some (.dic []) → URel X h (.ref n) .edi
inductive URels (X : Nat → Prop) (h : DH) : List D → List U → Prop
  | nil : URels X h [] []
  | cons {d : D} {ds : List D} {u : U} {us : List U} : URel X h d u → URels X h ds us → URels X h (d :: ds) (u :: us)
end
theorem lt_of_get {α : Type} {h : List α} {n : Nat} {o : α} (e : h[n]? = some o) : n < h.length := (List.getElem?_eq_some_iff.mp e).1
section
variable {X Y : Nat → Prop} {h h' : DH}
mutual
theorem URel.mono (hx : ∀ m, Y m → X m ∨ h.length ≤ m) (hh : ∀ m o, ¬ X m → h[m]? = some o → h'[m]? = some o) : ∀ {d : D} {u : U}, URel X h d u → URel Y h' d u
  | _, _, .non => .non
  | _, _, .bl b => .bl b
  | _, _, .int b => .int b
  | _, _, .str b => .str b
  | _, _, .scr b => .scr b
  | _, _, .rng b c => .rng b c
  | _, _, .ty b => .ty b
  | _, _, .tup r => .tup (URels.mono hx hh r)
  | _, _, .lst n e r => .lst (fun y => (hx _ y).elim n fun l => by have := lt_of_get e; omega) (hh _ _ n e) (URels.mono hx hh r)
  | _, _, .edi n e => .edi (fun y => (hx _ y).elim n fun l => by have := lt_of_get e; omega) (hh _ _ n e)
theorem URels.mono (hx : ∀ m, Y m → X m ∨ h.length ≤ m) (hh : ∀ m o, ¬ X m → h[m]? = some o → h'[m]? = some o) : ∀ {d : List D} {u : List U}, URels X h d u → URels Y h' d u
  | _, _, .nil => .nil
  | _, _, .cons r s => .cons (URel.mono hx hh r) (URels.mono hx hh s)
end
theorem URels.length : ∀ {ds : List D} {us : List U}, URels X h ds us → ds.length = us.length
  | _, _, .nil => rfl
  | _, _, .cons _ r => by simp [URels.length r]
theorem URels.append : ∀ {ds es : List D} {us vs : List U}, URels X h ds us → URels X h es vs → URels X h (ds ++ es) (us ++ vs)
  | _, _, _, _, .nil, s => s
  | _, _, _, _, .cons h r, s => .cons h (URels.append r s)
theorem URels.get : ∀ {ds : List D} {us : List U} {i : Nat} {u : U}, URels X h ds us → us[i]? = some u → ∃ d, ds[i]? = some d ∧ URel X h d u
  | _, _, _, _, .nil, e => by simp at e
  | _, _, 0, _, .cons h _, e => by simp at e; subst e; exact ⟨_, rfl, h⟩
  | _, _, i + 1, u, .cons _ r, e => by
    obtain ⟨v, h1, h2⟩ := URels.get (i := i) (u := u) r (by simpa using e)
    exact ⟨v, by simpa using h1, h2⟩
theorem URels.getD : ∀ {ds : List D} {us : List U} {i : Nat} {d : D}, URels X h ds us → ds[i]? = some d → ∃ u, us[i]? = some u ∧ URel X h d u
  | _, _, _, _, .nil, e => by simp at e
  | _, _, 0, _, .cons h _, e => by simp at e; subst e; exact ⟨_, rfl, h⟩
  | _, _, i + 1, d, .cons _ r, e => by
    obtain ⟨v, h1, h2⟩ := URels.getD (i := i) (d := d) r (by simpa using e)
    exact ⟨v, by simpa using h1, h2⟩
theorem URels.set {d : D} {u : U} (r : URel X h d u) : ∀ {ds : List D} {us : List U} (i : Nat), URels X h ds us → URels X h (ds.set i d) (us.set i u)
  | _, _, _, .nil => .nil
  | _, _, 0, .cons _ t => .cons r t
  | _, _, i + 1, .cons q t => .cons q (URels.set r i t)
theorem URels.take : ∀ {ds : List D} {us : List U} (n : Nat), URels X h ds us → URels X h (ds.take n) (us.take n)
  | _, _, 0, _ => .nil
  | _, _, _ + 1, .nil => .nil
  | _, _, n + 1, .cons r t => .cons r (URels.take n t)
theorem URels.drop : ∀ {ds : List D} {us : List U} (n : Nat), URels X h ds us → URels X h (ds.drop n) (us.drop n)
  | _, _, 0, r => r
  | _, _, _ + 1, .nil => .nil
  | _, _, n + 1, .cons _ t => URels.drop n t
theorem URels.rev : ∀ {ds : List D} {us : List U}, URels X h ds us → URels X h ds.reverse us.reverse
  | _, _, .nil => .nil
  | _, _, .cons r t => by
    rw [List.reverse_cons, List.reverse_cons]
    exact URels.append (URels.rev t) (.cons r .nil)
theorem URels.eraseIdx : ∀ {ds : List D} {us : List U} (n : Nat), URels X h ds us → URels X h (ds.eraseIdx n) (us.eraseIdx n)
  | _, _, _, .nil => .nil
  | _, _, 0, .cons _ t => t
  | _, _, n + 1, .cons r t => .cons r (URels.eraseIdx n t)
theorem URels.dropLast : ∀ {ds : List D} {us : List U}, URels X h ds us → URels X h ds.dropLast us.dropLast
  | _, _, .nil => .nil
  | _, _, .cons r .nil => .nil
  | _, _, .cons r (.cons s t) => .cons r (URels.dropLast (.cons s t))
theorem URels.flat (n : Nat) {ds : List D} {us : List U} (r : URels X h ds us) : URels X h (List.replicate n ds).flatten (List.replicate n us).flatten := by
  induction n with
  | zero => exact .nil
  | succ n ih => rw [List.replicate_succ, List.replicate_succ, List.flatten_cons, List.flatten_cons]; exact URels.append r ih
end
def LR (X : Nat → Prop) (h : DH) (n : Nat) (us : List U) : Prop := ∃ ds : List D, h[n]? = some (O.lst ds) ∧ URels X h ds us
/-- related, the object at the top may be anybody's -/
def TR (X : Nat → Prop) (h : DH) (d : D) (u : U) : Prop := URel X h d u ∨ ∃ n us, d = .ref n ∧ u = .lst us ∧ LR X h n us
inductive Fl where
  | own | lent | io | bor | shr
inductive Kd where
  | tmp | shr | bor | view (i : Nat)
abbrev US := List (Option (U × Fl))
structure Fm where
  P : Nat → Prop
  w : Nat → Prop
  b : Nat
def Fm.add (F : Fm) (n : Nat) : Fm := { F with P := fun m => F.P m ∨ m = n }
def Ex (s : DS) (su : US) (i n : Nat) : Prop := s[i]? = some (some (D.ref n)) ∧ ∃ u : U, su[i]? = some (some (u, Fl.own)) ∨ su[i]? = some (some (u, Fl.lent))
def Ow (s : DS) (su : US) (n : Nat) : Prop := ∃ i, Ex s su i n
def Wr (s : DS) (su : US) (n : Nat) : Prop := ∃ (i : Nat) (u : U), s[i]? = some (some (D.ref n)) ∧ su[i]? = some (some (u, Fl.own))
def XX (F : Fm) (s : DS) (su : US) (n : Nat) : Prop := F.P n ∨ F.w n ∨ Ow s su n
def SlotR (F : Fm) (X : Nat → Prop) (h : DH) (d : D) (u : U) : Fl → Prop
  | .own | .lent => ∃ n us, d = .ref n ∧ u = .lst us ∧ F.b ≤ n ∧ ¬ F.P n ∧ LR X h n us
  | .io => ∃ n us, d = .ref n ∧ u = .lst us ∧ F.w n ∧ LR X h n us
  | .bor => URel X h d u ∨ ∃ n us, d = .ref n ∧ u = .lst us ∧ n < F.b ∧ ¬ F.w n ∧ LR X h n us
  | .shr => URel X h d u
structure ER (F : Fm) (h : DH) (s : DS) (su : US) : Prop where
  len : s.length = su.length
  slot : ∀ (i : Nat) (u : U) (f : Fl), su[i]? = some (some (u, f)) → ∃ d : D, s[i]? = some (some d) ∧ SlotR F (XX F s su) h d u f
  inj : ∀ i j n, Ex s su i n → Ex s su j n → i = j
  io1 : ∀ (i : Nat) (u : U), su[i]? = some (some (u, Fl.io)) → i = 0
  pb : ∀ n, F.P n → n < h.length
  wb : ∀ n, F.w n → n < F.b
  bl : F.b ≤ h.length
structure Go (F : Fm) (h : DH) (s : DS) (su : US) (h' : DH) (s' : DS) (su' : US) : Prop where
  le : h.length ≤ h'.length
  fr : ∀ (n : Nat) (o : O), h[n]? = some o → ¬ F.w n → ¬ Wr s su n → h'[n]? = some o
  gw : ∀ n, Wr s' su' n → Wr s su n ∨ h.length ≤ n
  gx : ∀ n, Ow s' su' n → Ow s su n ∨ h.length ≤ n
  lt : ∀ (i : Nat) (u : U) (n : Nat), su'[i]? = some (some (u, Fl.lent)) → s'[i]? = some (some (D.ref n)) → ∃ u0 : U, su[i]? = some (some (u0, Fl.lent)) ∧ s[i]? = some (some (D.ref n))
def KR (F : Fm) (l : Nat) (h : DH) (s : DS) (su : US) (d : D) (u : U) : Kd → Prop
  | .shr => URel (XX F s su) h d u
  | .tmp => ∃ n us, d = .ref n ∧ u = .lst us ∧ l ≤ n ∧ F.b ≤ n ∧ ¬ F.P n ∧ ER (F.add n) h s su ∧ LR (XX (F.add n) s su) h n us
  | .bor => URel (XX F s su) h d u ∨ ∃ n us, d = .ref n ∧ u = .lst us ∧ ¬ F.w n ∧ ¬ Wr s su n ∧ LR (XX F s su) h n us
  | .view i => s[i]? = some (some d) ∧ (su[i]? = some (some (u, Fl.own)) ∨ su[i]? = some (some (u, Fl.io)))
section
variable {F : Fm} {h h1 h2 : DH} {s s1 s2 : DS} {su su1 su2 : US} {d : D} {u : U}
theorem Wr.ow {n : Nat} (q : Wr s su n) : Ow s su n := let ⟨i, u, a, b⟩ := q; ⟨i, a, u, .inl b⟩
theorem Go.refl : Go F h s su h s su := ⟨Nat.le_refl _, fun _ _ e _ _ => e, fun _ q => .inl q, fun _ q => .inl q, fun _ u n a b => ⟨u, a, b⟩⟩
theorem Go.trans (a : Go F h s su h1 s1 su1) (b : Go F h1 s1 su1 h2 s2 su2) : Go F h s su h2 s2 su2 where
  le := Nat.le_trans a.le b.le
  fr := fun n o e nw nr => b.fr n o (a.fr n o e nw nr) nw fun q => by
    rcases a.gw n q with q | q
    · exact nr q
    · have := lt_of_get e; omega
  gw := fun n q => by
    rcases b.gw n q with q | q
    · exact a.gw n q
    · exact .inr (Nat.le_trans a.le q)
  gx := fun n q => by
    rcases b.gx n q with q | q
    · exact a.gx n q
    · exact .inr (Nat.le_trans a.le q)
  lt := fun i u n q r => by
    obtain ⟨u1, q1, r1⟩ := b.lt i u n q r
    exact a.lt i u1 n q1 r1
theorem Go.xx (a : Go F h s su h1 s1 su1) : ∀ m, XX F s1 su1 m → XX F s su m ∨ h.length ≤ m := fun m q => by
  rcases q with q | q | q
  · exact .inl (.inl q)
  · exact .inl (.inr (.inl q))
  · rcases a.gx m q with q | q
    · exact .inl (.inr (.inr q))
    · exact .inr q
theorem Go.keep (a : Go F h s su h1 s1 su1) : ∀ (m : Nat) (o : O), ¬ XX F s su m → h[m]? = some o → h1[m]? = some o := fun m o n e => a.fr m o e (fun q => n (.inr (.inl q))) fun q => n (.inr (.inr q.ow))
theorem Go.rel (a : Go F h s su h1 s1 su1) (r : URel (XX F s su) h d u) : URel (XX F s1 su1) h1 d u := r.mono a.xx a.keep
theorem Go.rels (a : Go F h s su h1 s1 su1) {ds : List D} {us : List U} (r : URels (XX F s su) h ds us) : URels (XX F s1 su1) h1 ds us := r.mono a.xx a.keep
theorem Go.lr (a : Go F h s su h1 s1 su1) {n : Nat} {us : List U} (nw : ¬ F.w n) (nr : ¬ Wr s su n) (r : LR (XX F s su) h n us) : LR (XX F s1 su1) h1 n us := let ⟨ds, e, q⟩ := r; ⟨ds, a.fr n _ e nw nr, a.rels q⟩
theorem Go.addP {n : Nat} (a : Go F h s su h1 s1 su1) : Go (F.add n) h s su h1 s1 su1 := ⟨a.le, a.fr, a.gw, a.gx, a.lt⟩
theorem Go.subP {n : Nat} (a : Go (F.add n) h s su h1 s1 su1) : Go F h s su h1 s1 su1 := ⟨a.le, a.fr, a.gw, a.gx, a.lt⟩
theorem xx_add {n m : Nat} (q : XX F s su m) : XX (F.add n) s su m := by
  rcases q with q | q | q
  · exact .inl (.inl q)
  · exact .inr (.inl q)
  · exact .inr (.inr q)
theorem xx_addI {n m : Nat} (q : XX (F.add n) s su m) : XX F s su m ∨ m = n := by
  rcases q with (q | q) | q | q
  · exact .inl (.inl q)
  · exact .inr q
  · exact .inl (.inr (.inl q))
  · exact .inl (.inr (.inr q))
theorem URel.less {X Y : Nat → Prop} (hx : ∀ m, Y m → X m) (r : URel X h d u) : URel Y h d u := r.mono (fun m q => .inl (hx m q)) fun _ _ _ e => e
theorem URels.less {X Y : Nat → Prop} (hx : ∀ m, Y m → X m) {ds : List D} {us : List U} (r : URels X h ds us) : URels Y h ds us := r.mono (fun m q => .inl (hx m q)) fun _ _ _ e => e
theorem LR.less {X Y : Nat → Prop} (hx : ∀ m, Y m → X m) {n : Nat} {us : List U} (r : LR X h n us) : LR Y h n us := let ⟨ds, e, q⟩ := r; ⟨ds, e, q.less hx⟩
theorem SlotR.mono {F' : Fm} {X Y : Nat → Prop} {f : Fl} (hb : F'.b = F.b) (hw : F'.w = F.w) (hp : (f = .own ∨ f = .lent) → ∀ n, d = .ref n → F'.P n → F.P n)
    (hr : ∀ {d : D} {u : U}, URel X h d u → URel Y h1 d u) (hl : ∀ n us, d = .ref n → LR X h n us → LR Y h1 n us) (q : SlotR F X h d u f) : SlotR F' Y h1 d u f := by
  cases f with
  | own => obtain ⟨n, us, a, b, c, e, r⟩ := q; exact ⟨n, us, a, b, by rw [hb]; exact c, fun z => e (hp (.inl rfl) n a z), hl n us a r⟩
  | lent => obtain ⟨n, us, a, b, c, e, r⟩ := q; exact ⟨n, us, a, b, by rw [hb]; exact c, fun z => e (hp (.inr rfl) n a z), hl n us a r⟩
  | io => obtain ⟨n, us, a, b, c, r⟩ := q; exact ⟨n, us, a, b, by rw [hw]; exact c, hl n us a r⟩
  | bor =>
    rcases q with q | ⟨n, us, a, b, c, e, r⟩
    · exact .inl (hr q)
    · exact .inr ⟨n, us, a, b, by rw [hb]; exact c, by rw [hw]; exact e, hl n us a r⟩
  | shr => exact hr q
theorem LR.mono {X Y : Nat → Prop} (hx : ∀ m, Y m → X m ∨ h.length ≤ m) (hh : ∀ (m : Nat) (o : O), h[m]? = some o → h1[m]? = some o) {n : Nat} {us : List U} (r : LR X h n us) : LR Y h1 n us := let ⟨ds, e, q⟩ := r; ⟨ds, hh _ _ e, q.mono hx fun m o _ => hh m o⟩
/-- the heap grows; more may be protected -/
theorem ER.ext {F' : Fm} (e : ER F h s su) (hh : ∀ (m : Nat) (o : O), h[m]? = some o → h1[m]? = some o) (hl : h.length ≤ h1.length) (hP : ∀ m, F'.P m → F.P m ∨ h.length ≤ m) (hw : F'.w = F.w) (hb : F'.b = F.b) (hpb : ∀ n, F'.P n → n < h1.length) : ER F' h1 s su where
  len := e.len
  slot := fun i u f q => by
    obtain ⟨d, a, r⟩ := e.slot i u f q
    have hx : ∀ m, XX F' s su m → XX F s su m ∨ h.length ≤ m := fun m z => by
      rcases z with z | z | z
      · rcases hP m z with z | z
        · exact .inl (.inl z)
        · exact .inr z
      · rw [hw] at z; exact .inl (.inr (.inl z))
      · exact .inl (.inr (.inr z))
    refine ⟨d, a, SlotR.mono hb hw (fun hf n hd hp => ?_) (fun z => z.mono hx fun m o _ => hh m o) (fun n us _ z => z.mono hx hh) r⟩
    rcases hP n hp with z | z
    · exact z
    · subst hd
      have : LR (XX F s su) h n (match u with | .lst us => us | _ => []) := by
        rcases hf with rfl | rfl <;> (obtain ⟨n', us, a, b, _, _, r⟩ := r; cases a; subst b; exact r)
      obtain ⟨ds, e', _⟩ := this
      have := lt_of_get e'
      omega
  inj := e.inj
  io1 := e.io1
  pb := hpb
  wb := by rw [hw, hb]; exact e.wb
  bl := by rw [hb]; exact Nat.le_trans e.bl hl
theorem ER.sub {n : Nat} (e : ER (F.add n) h s su) : ER F h s su := ER.ext (F := F.add n) (F' := F) e (fun _ _ z => z) (Nat.le_refl _) (fun m z => .inl (.inl z)) rfl rfl (fun m z => e.pb m (.inl z))
theorem app_get {l : DH} {m : Nat} {o : O} (e : h[m]? = some o) : (h ++ l)[m]? = some o := by rw [List.getElem?_append_left (lt_of_get e)]; exact e
theorem ER.app {l : DH} (e : ER F h s su) : ER F (h ++ l) s su := e.ext (fun _ _ z => app_get z) (by simp) (fun _ z => .inl z) rfl rfl fun n z => by have := e.pb n z; simp; omega
theorem Go.app {l : DH} : Go F h s su (h ++ l) s su := ⟨by simp, fun _ _ e _ _ => app_get e, fun _ q => .inl q, fun _ q => .inl q, fun _ u n a b => ⟨u, a, b⟩⟩
theorem KR.new {l : Nat} {ds : List D} {us : List U} (e : ER F h s su) (hl : l ≤ h.length) (r : URels (XX F s su) h ds us) : KR F l (h ++ [.lst ds]) s su (.ref h.length) (.lst us) .tmp := by
  refine ⟨h.length, us, rfl, rfl, hl, e.bl, fun z => by have := e.pb _ z; omega, e.ext (fun _ _ z => app_get z) (by simp) (fun m z => ?_) rfl rfl (fun n z => ?_), ds, by simp, r.mono (fun m z => ?_) fun _ _ _ z => app_get z⟩
  · rcases z with z | z
    · exact .inl z
    · exact .inr (by omega)
  · rcases z with z | z
    · have := e.pb n z; simp; omega
    · simp; omega
  · rcases xx_addI z with z | z
    · exact .inl z
    · exact .inr (by omega)
theorem KR.tr {l : Nat} {k : Kd} (e : ER F h s su) (r : KR F l h s su d u k) : TR (XX F s su) h d u := by
  cases k with
  | shr => exact .inl r
  | tmp => obtain ⟨n, us, a, b, _, _, _, _, q⟩ := r; exact .inr ⟨n, us, a, b, q.less fun m => xx_add⟩
  | bor =>
    rcases r with r | ⟨n, us, a, b, _, _, q⟩
    · exact .inl r
    · exact .inr ⟨n, us, a, b, q⟩
  | view i =>
    obtain ⟨a, b⟩ := r
    rcases b with b | b
    · obtain ⟨d', a', n, us, c1, c2, _, _, q⟩ := e.slot i u _ b
      rw [a] at a'; cases a'
      exact .inr ⟨n, us, c1, c2, q⟩
    · obtain ⟨d', a', n, us, c1, c2, _, q⟩ := e.slot i u _ b
      rw [a] at a'; cases a'
      exact .inr ⟨n, us, c1, c2, q⟩
theorem ER.notWr {n : Nat} (e : ER (F.add n) h s su) : ¬ Wr s su n := fun ⟨i, u, a, b⟩ => by
  obtain ⟨d', a', n', us, c1, _, _, c4, _⟩ := e.slot i u _ b
  rw [a] at a'; cases a'; cases c1
  exact c4 (.inr rfl)
theorem ER.notOw {n : Nat} (e : ER (F.add n) h s su) : ¬ Ow s su n := fun ⟨i, a, u, b⟩ => by
  rcases b with b | b <;>
  · obtain ⟨d', a', n', us, c1, _, _, c4, _⟩ := e.slot i u _ b
    rw [a] at a'; cases a'; cases c1
    exact c4 (.inr rfl)
def pend (p : U × Kd) (su : US) : Prop := match p.2 with
  | .view i => su[i]? = some (some (p.1, Fl.own)) ∨ su[i]? = some (some (p.1, Fl.io))
  | _ => True
/-- what was read earlier, after more has been done -/
theorem KR.later {l : Nat} {p : U × Kd} (e1 : ER F h1 s su1) (r : KR F l h1 s su1 d p.1 p.2) (g : Go F h1 s su1 h2 s su2) (e2 : ER F h2 s su2) (q : pend p su2) : KR F 0 h2 s su2 d p.1 p.2 ∨ TR (XX F s su2) h2 d p.1 := by
  obtain ⟨u, k⟩ := p
  cases k with
  | shr => exact .inl (g.rel r)
  | tmp =>
    obtain ⟨n, us, a, b, _, hb, _, e, q⟩ := r
    refine .inr (.inr ⟨n, us, a, b, g.lr (fun z => ?_) (ER.notWr e) (q.less fun m => xx_add)⟩)
    have := e1.wb n z
    omega
  | bor =>
    rcases r with r | ⟨n, us, a, b, c1, c2, q⟩
    · exact .inl (.inl (g.rel r))
    · refine .inr (.inr ⟨n, us, a, b, g.lr c1 c2 q⟩)
  | view i => exact .inl ⟨r.1, q⟩
end
end
end PyI
-- PvB
/-! PvB: what a store, an escape, a change of a list do to the relation; results -/
namespace PyI
noncomputable section
open PySem PySem.Spec L2
theorem get_set {α : Type} {l : List α} {i j : Nat} {a : α} : (l.set i a)[j]? = if i = j then (if i < l.length then some a else none) else l[j]? := by
  rw [List.getElem?_set]
section
variable {F : Fm} {h h1 h2 : DH} {s s1 s2 : DS} {su su1 su2 : US} {d : D} {u : U} {i n : Nat}
theorem get_set_some {α : Type} {l : List α} {i j : Nat} {a b : α} (e : (l.set i a)[j]? = some b) : (i = j ∧ b = a ∧ i < l.length) ∨ (i ≠ j ∧ l[j]? = some b) := by
  rw [get_set] at e
  split at e
  · rename_i q
    split at e
    · rename_i z; cases e; exact .inl ⟨q, rfl, z⟩
    · cases e
  · rename_i q; exact .inr ⟨q, e⟩
def notIo (su : US) (i : Nat) : Bool := match su[i]? with
  | some (some (_, .io)) => false
  | _ => true
theorem notIo_ne (q : notIo su i = true) (v : U) : su[i]? ≠ some (some (v, Fl.io)) := fun e => by
  unfold notIo at q
  rw [e] at q
  cases q
/-- a slot gets a value that nobody owns -/
theorem ER.setShr (e : ER F h s su) (r : URel (XX F s su) h d u) : ER F h (s.set i (some d)) (su.set i (some (u, .shr))) ∧ Go F h s su h (s.set i (some d)) (su.set i (some (u, .shr))) := by
  have ex : ∀ j n, Ex (s.set i (some d)) (su.set i (some (u, .shr))) j n → Ex s su j n := fun j n ⟨a, v, b⟩ => by
    rcases get_set_some a with ⟨q, a, l⟩ | ⟨q, a⟩
    · subst q
      rcases b with b | b <;>
      · rcases get_set_some b with ⟨_, b, _⟩ | ⟨q, _⟩
        · cases b
        · exact absurd rfl q
    · refine ⟨a, v, ?_⟩
      rcases b with b | b
      · rcases get_set_some b with ⟨q', _, _⟩ | ⟨_, b⟩
        · exact absurd q' q
        · exact .inl b
      · rcases get_set_some b with ⟨q', _, _⟩ | ⟨_, b⟩
        · exact absurd q' q
        · exact .inr b
  have ow : ∀ n, Ow (s.set i (some d)) (su.set i (some (u, .shr))) n → Ow s su n := fun n ⟨j, q⟩ => ⟨j, ex j n q⟩
  have xx : ∀ n, XX F (s.set i (some d)) (su.set i (some (u, .shr))) n → XX F s su n := fun n q => by
    rcases q with q | q | q
    · exact .inl q
    · exact .inr (.inl q)
    · exact .inr (.inr (ow n q))
  have wr : ∀ n, Wr (s.set i (some d)) (su.set i (some (u, .shr))) n → Wr s su n := fun n ⟨j, v, a, b⟩ => by
    rcases get_set_some b with ⟨_, b, _⟩ | ⟨q, b⟩
    · cases b
    · rcases get_set_some a with ⟨q', _, _⟩ | ⟨_, a⟩
      · exact absurd q' q
      · exact ⟨j, v, a, b⟩
  refine ⟨⟨by simp [e.len], fun j v f q => ?_, fun j k n a b => e.inj j k n (ex j n a) (ex k n b), fun j v q => ?_, e.pb, e.wb, e.bl⟩, Nat.le_refl _, fun n o a _ _ => a, fun n q => .inl (wr n q), fun n q => .inl (ow n q), fun j v n a b => ?_⟩
  · rcases get_set_some q with ⟨rfl, q, l⟩ | ⟨ne, q⟩
    · cases q
      exact ⟨d, by rw [get_set, if_pos rfl, if_pos (by rw [e.len]; exact l)], r.less xx⟩
    · obtain ⟨d', a, q⟩ := e.slot j v f q
      exact ⟨d', by rw [get_set, if_neg ne]; exact a, SlotR.mono rfl rfl (fun _ _ _ z => z) (fun z => z.less xx) (fun _ _ _ z => z.less xx) q⟩
  · rcases get_set_some q with ⟨_, q, _⟩ | ⟨_, q⟩
    · cases q
    · exact e.io1 j v q
  · rcases get_set_some a with ⟨_, a, _⟩ | ⟨ne, a⟩
    · cases a
    · rcases get_set_some b with ⟨q', _, _⟩ | ⟨_, b⟩
      · exact absurd q' ne
      · exact ⟨v, a, b⟩
/-- a slot gets a new list -/
theorem ER.setOwn {us : List U} {h0 : DH} {s0 : DS} {su0 : US} (g : Go F h0 s0 su0 h s su) (hl : h0.length ≤ n) (hb : F.b ≤ n) (hp : ¬ F.P n) (e : ER (F.add n) h s su) (r : LR (XX (F.add n) s su) h n us) :
    ER F h (s.set i (some (.ref n))) (su.set i (some (.lst us, .own))) ∧ Go F h0 s0 su0 h (s.set i (some (.ref n))) (su.set i (some (.lst us, .own))) := by
  have ex : ∀ j m, Ex (s.set i (some (.ref n))) (su.set i (some (.lst us, .own))) j m → (j = i ∧ m = n) ∨ (j ≠ i ∧ Ex s su j m) := fun j m ⟨a, v, b⟩ => by
    rcases get_set_some a with ⟨q, a, l⟩ | ⟨q, a⟩
    · cases a; exact .inl ⟨q.symm, rfl⟩
    · refine .inr ⟨Ne.symm q, a, v, ?_⟩
      rcases b with b | b
      · rcases get_set_some b with ⟨q', _, _⟩ | ⟨_, b⟩
        · exact absurd q' q
        · exact .inl b
      · rcases get_set_some b with ⟨q', _, _⟩ | ⟨_, b⟩
        · exact absurd q' q
        · exact .inr b
  have ow : ∀ m, Ow (s.set i (some (.ref n))) (su.set i (some (.lst us, .own))) m → Ow s su m ∨ m = n := fun m ⟨j, q⟩ => by
    rcases ex j m q with q | q
    · exact .inr q.2
    · exact .inl ⟨j, q.2⟩
  have xx : ∀ m, XX F (s.set i (some (.ref n))) (su.set i (some (.lst us, .own))) m → XX (F.add n) s su m := fun m q => by
    rcases q with q | q | q
    · exact .inl (.inl q)
    · exact .inr (.inl q)
    · rcases ow m q with q | q
      · exact .inr (.inr q)
      · exact .inl (.inr q)
  have wr : ∀ m, Wr (s.set i (some (.ref n))) (su.set i (some (.lst us, .own))) m → Wr s su m ∨ m = n := fun m ⟨j, v, a, b⟩ => by
    rcases get_set_some a with ⟨q, a, l⟩ | ⟨q, a⟩
    · cases a; exact .inr rfl
    · rcases get_set_some b with ⟨q', _, _⟩ | ⟨_, b⟩
      · exact absurd q' q
      · exact .inl ⟨j, v, a, b⟩
  refine ⟨⟨by simp [e.len], fun j v f q => ?_, fun j k m a b => ?_, fun j v q => ?_, fun m q => e.pb m (.inl q), e.wb, e.bl⟩, g.le, g.fr, fun m q => ?_, fun m q => ?_, fun j v m a b => ?_⟩
  · rcases get_set_some q with ⟨rfl, q, l⟩ | ⟨ne, q⟩
    · cases q
      refine ⟨.ref n, by rw [get_set, if_pos rfl, if_pos (by rw [e.len]; exact l)], n, us, rfl, rfl, hb, hp, r.less xx⟩
    · obtain ⟨d', a, q⟩ := e.slot j v f q
      exact ⟨d', by rw [get_set, if_neg ne]; exact a, SlotR.mono (F := F.add n) (F' := F) rfl rfl (fun _ _ _ z => Or.inl z) (fun z => z.less xx) (fun _ _ _ z => z.less xx) q⟩
  · rcases ex j m a with ⟨q1, q2⟩ | ⟨_, a'⟩
    · rcases ex k m b with ⟨q3, _⟩ | ⟨_, b'⟩
      · rw [q1, q3]
      · rw [q2] at b'; exact absurd ⟨k, b'⟩ e.notOw
    · rcases ex k m b with ⟨_, q2⟩ | ⟨_, b'⟩
      · rw [q2] at a'; exact absurd ⟨j, a'⟩ e.notOw
      · exact e.inj j k m a' b'
  · rcases get_set_some q with ⟨_, q, _⟩ | ⟨_, q⟩
    · cases q
    · exact e.io1 j v q
  · rcases wr m q with q | q
    · exact g.gw m q
    · exact .inr (by omega)
  · rcases ow m q with q | q
    · exact g.gx m q
    · exact .inr (by omega)
  · rcases get_set_some a with ⟨_, a, _⟩ | ⟨ne, a⟩
    · cases a
    · rcases get_set_some b with ⟨q', _, _⟩ | ⟨_, b⟩
      · exact absurd q' ne
      · exact g.lt j v m a b
/-- who only reads a list may keep it, if it is nobody's to change from then on -/
theorem ER.esc (e : ER F h s su) (a : s[i]? = some (some d)) (b : su[i]? = some (some (u, Fl.own))) :
    ER F h s (su.set i (some (u, .shr))) ∧ Go F h s su h s (su.set i (some (u, .shr))) ∧ URel (XX F s (su.set i (some (u, .shr)))) h d u := by
  obtain ⟨d', a', n, us, rfl, rfl, hb, hp, r⟩ := e.slot i u _ b
  rw [a] at a'; cases a'
  have ei : Ex s su i n := ⟨a, _, .inl b⟩
  have ex : ∀ j m, Ex s (su.set i (some (.lst us, .shr))) j m → j ≠ i ∧ Ex s su j m := fun j m ⟨a, v, b⟩ => by
    rcases b with b | b <;>
    · rcases get_set_some b with ⟨_, b, _⟩ | ⟨q, b⟩
      · cases b
      · exact ⟨Ne.symm q, a, v, by first | exact .inl b | exact .inr b⟩
  have ow : ∀ m, Ow s (su.set i (some (.lst us, .shr))) m → Ow s su m ∧ m ≠ n := fun m ⟨j, q⟩ => ⟨⟨j, (ex j m q).2⟩, fun z => by subst z; exact (ex j m q).1 (e.inj j i m (ex j m q).2 ei)⟩
  have xx : ∀ m, XX F s (su.set i (some (.lst us, .shr))) m → XX F s su m := fun n q => by
    rcases q with q | q | q
    · exact .inl q
    · exact .inr (.inl q)
    · exact .inr (.inr (ow n q).1)
  have wr : ∀ m, Wr s (su.set i (some (.lst us, .shr))) m → Wr s su m := fun n ⟨j, v, a, b⟩ => by
    rcases get_set_some b with ⟨_, b, _⟩ | ⟨q, b⟩
    · cases b
    · exact ⟨j, v, a, b⟩
  have top : URel (XX F s (su.set i (some (.lst us, .shr)))) h (.ref n) (.lst us) := by
    obtain ⟨ds, e1, r1⟩ := r
    refine .lst (fun z => ?_) e1 (r1.less xx)
    rcases z with z | z | z
    · exact hp z
    · have := e.wb n z; omega
    · exact (ow n z).2 rfl
  refine ⟨⟨by simp [e.len], fun j v f q => ?_, fun j k n a b => e.inj j k n (ex j n a).2 (ex k n b).2, fun j v q => ?_, e.pb, e.wb, e.bl⟩, ⟨Nat.le_refl _, fun n o a _ _ => a, fun n q => .inl (wr n q), fun n q => .inl (ow n q).1, fun j v n a b => ?_⟩, top⟩
  · rcases get_set_some q with ⟨rfl, q, l⟩ | ⟨ne, q⟩
    · cases q
      exact ⟨_, a, top⟩
    · obtain ⟨d', a, q⟩ := e.slot j v f q
      exact ⟨d', a, SlotR.mono rfl rfl (fun _ _ _ z => z) (fun z => z.less xx) (fun _ _ _ z => z.less xx) q⟩
  · rcases get_set_some q with ⟨_, q, _⟩ | ⟨_, q⟩
    · cases q
    · exact e.io1 j v q
  · rcases get_set_some a with ⟨_, a, _⟩ | ⟨ne, a⟩
    · cases a
    · exact ⟨v, a, b⟩
/-- a list that is ours changes -/
theorem ER.mut {us : List U} {f : Fl} {ds' : List D} {us' : List U} (hf : f = .own ∨ f = .io) (e : ER F h s su) (a : s[i]? = some (some (D.ref n))) (b : su[i]? = some (some (u, f))) (r : URels (XX F s su) h ds' us') :
    ER F (h.set n (.lst ds')) s (su.set i (some (.lst us', f))) ∧ Go F h s su (h.set n (.lst ds')) s (su.set i (some (.lst us', f))) := by
  have xn : XX F s su n ∧ (f = .own → F.b ≤ n ∧ ¬ F.P n) ∧ (f = .io → F.w n) ∧ n < h.length ∧ (F.w n ∨ Wr s su n) := by
    rcases hf with rfl | rfl
    · obtain ⟨d', a', n', us, c, _, hb, hp, ds, e1, _⟩ := e.slot i u _ b
      rw [a] at a'; cases a'; cases c
      exact ⟨.inr (.inr ⟨i, a, u, .inl b⟩), fun _ => ⟨hb, hp⟩, fun z => (nomatch z), lt_of_get e1, .inr ⟨i, u, a, b⟩⟩
    · obtain ⟨d', a', n', us, c, _, hw, ds, e1, _⟩ := e.slot i u _ b
      rw [a] at a'; cases a'; cases c
      exact ⟨.inr (.inl hw), fun z => (nomatch z), fun _ => hw, lt_of_get e1, .inl hw⟩
  obtain ⟨xn, fo, fi, hn, wn⟩ := xn
  have il : i < su.length := lt_of_get b
  have ex : ∀ j m, Ex s (su.set i (some (.lst us', f))) j m ↔ Ex s su j m := fun j m => by
    constructor
    · rintro ⟨a, v, b'⟩
      rcases b' with b' | b'
      · rcases get_set_some b' with ⟨q, b', _⟩ | ⟨q, b'⟩
        · cases b'; subst q; exact ⟨a, u, .inl b⟩
        · exact ⟨a, v, .inl b'⟩
      · rcases get_set_some b' with ⟨q, b', _⟩ | ⟨q, b'⟩
        · cases b'; rcases hf with hf | hf <;> cases hf
        · exact ⟨a, v, .inr b'⟩
    · rintro ⟨a, v, b'⟩
      by_cases q : i = j
      · subst q
        rcases b' with b' | b'
        · rw [b] at b'; cases b'
          exact ⟨a, .lst us', .inl (by rw [get_set, if_pos rfl, if_pos il])⟩
        · rw [b] at b'; cases b'
          rcases hf with hf | hf <;> cases hf
      · exact ⟨a, v, by rw [get_set, if_neg q]; exact b'⟩
  have ow : ∀ m, Ow s (su.set i (some (.lst us', f))) m ↔ Ow s su m := fun m => ⟨fun ⟨j, q⟩ => ⟨j, (ex j m).mp q⟩, fun ⟨j, q⟩ => ⟨j, (ex j m).mpr q⟩⟩
  have xx : XX F s (su.set i (some (.lst us', f))) = XX F s su := by
    funext m
    unfold XX
    rw [propext (ow m)]
  have wr : ∀ m, Wr s (su.set i (some (.lst us', f))) m → Wr s su m := fun m ⟨j, v, a, b'⟩ => by
    rcases get_set_some b' with ⟨q, b', _⟩ | ⟨q, b'⟩
    · cases b'; subst q; exact ⟨_, u, a, b⟩
    · exact ⟨j, v, a, b'⟩
  have old : ∀ (m : Nat) (o : O), ¬ XX F s su m → h[m]? = some o → (h.set n (.lst ds'))[m]? = some o := fun m o nx e1 => by
    rw [List.getElem?_set_ne (fun z => nx (by rw [← z]; exact xn))]
    exact e1
  have rel : ∀ {d : D} {u : U}, URel (XX F s su) h d u → URel (XX F s su) (h.set n (.lst ds')) d u := fun r => r.mono (fun m q => .inl q) old
  refine ⟨⟨by simp [e.len], fun j v g q => ?_, fun j k m a b => e.inj j k m ((ex j m).mp a) ((ex k m).mp b), fun j v q => ?_, fun m q => by rw [List.length_set]; exact e.pb m q, e.wb, by rw [List.length_set]; exact e.bl⟩, ⟨by simp, fun m o a nw nr => ?_, fun m q => .inl (wr m q), fun m q => .inl ((ow m).mp q), fun j v m a b => ?_⟩⟩
  · rw [xx]
    rcases get_set_some q with ⟨rfl, q, l⟩ | ⟨ne, qq⟩
    · cases q
      have lr : LR (XX F s su) (h.set n (.lst ds')) n us' := ⟨ds', List.getElem?_set_self hn, r.mono (fun m q => .inl q) old⟩
      refine ⟨_, a, ?_⟩
      rcases hf with rfl | rfl
      · exact ⟨n, us', rfl, rfl, (fo rfl).1, (fo rfl).2, lr⟩
      · exact ⟨n, us', rfl, rfl, fi rfl, lr⟩
    · obtain ⟨d', a', q'⟩ := e.slot j v g qq
      refine ⟨d', a', SlotR.mono rfl rfl (fun _ _ _ z => z) rel (fun m us hd z => ?_) q'⟩
      obtain ⟨ds, e1, r1⟩ := z
      refine ⟨ds, ?_, r1.mono (fun m q => .inl q) old⟩
      rw [List.getElem?_set_ne]
      · exact e1
      · intro z
        subst z
        subst hd
        cases g with
        | own =>
          rcases hf with rfl | rfl
          · exact ne (e.inj i j n ⟨a, u, .inl b⟩ ⟨a', v, .inl qq⟩)
          · obtain ⟨n', us, c, _, hb, hp, _⟩ := q'
            cases c
            have := e.wb n (fi rfl); omega
        | lent =>
          rcases hf with rfl | rfl
          · exact ne (e.inj i j n ⟨a, u, .inl b⟩ ⟨a', v, .inr qq⟩)
          · obtain ⟨n', us, c, _, hb, hp, _⟩ := q'
            cases c
            have := e.wb n (fi rfl); omega
        | io =>
          obtain ⟨n', us, c, _, hw, _⟩ := q'
          cases c
          rcases hf with rfl | rfl
          · have := e.wb n hw; have := (fo rfl).1; omega
          · have h1 := e.io1 i u b; have h2 := e.io1 j v qq
            omega
        | bor =>
          rcases q' with q' | ⟨n', us, c, _, hb, hw, _⟩
          · cases q' with | lst nx _ _ => exact nx xn | edi nx _ => exact nx xn
          · cases c
            rcases hf with rfl | rfl
            · have := (fo rfl).1; omega
            · exact hw (fi rfl)
        | shr => cases q' with | lst nx _ _ => exact nx xn | edi nx _ => exact nx xn
  · rcases get_set_some q with ⟨rfl, q, _⟩ | ⟨_, q⟩
    · cases q; exact e.io1 i u b
    · exact e.io1 j v q
  · rw [List.getElem?_set_ne]
    · exact a
    · intro z; subst z
      rcases wn with wn | wn
      · exact nw wn
      · exact nr wn
  · rcases get_set_some a with ⟨q, a, _⟩ | ⟨ne, a⟩
    · cases a; rcases hf with hf | hf <;> cases hf
    · exact ⟨v, a, b⟩
end
end
end PyI
-- PvO
/-! PvO: operators on values -/
namespace PyI
noncomputable section
open PySem PySem.Spec L2
inductive VO where
  | val (u : U) | new (us : List U) | no
def OkO (X : Nat → Prop) (h : DH) (r : Res D) : VO → Prop
  | .val u => ∃ d, r = .ok d h ∧ URel X h d u
  | .new us => ∃ ds, r = .ok (.ref h.length) (h ++ [.lst ds]) ∧ URels X h ds us
  | .no => True
inductive TRs (X : Nat → Prop) (h : DH) : List D → List U → Prop
  | nil : TRs X h [] []
  | cons {d : D} {ds : List D} {u : U} {us : List U} : TR X h d u → TRs X h ds us → TRs X h (d :: ds) (u :: us)
def OSim2 (f : D → D → DH → Res D) (v : U → U → VO) : Prop := ∀ (X : Nat → Prop) (h : DH) (d e : D) (u w : U), TR X h d u → TR X h e w → OkO X h (f d e h) (v u w)
def OSimL (f : List D → DH → Res D) (v : List U → VO) : Prop := ∀ (X : Nat → Prop) (h : DH) (ds : List D) (us : List U), TRs X h ds us → OkO X h (f ds h) (v us)
section
variable {X Y : Nat → Prop} {h h' : DH} {d e : D} {u w : U} {ds es : List D} {us ws : List U}
theorem TR.non (r : TR X h d .non) : d = .non := by rcases r with r | ⟨_, _, _, z, _⟩; (cases r; rfl); cases z
theorem TR.bl {b : Bool} (r : TR X h d (.bl b)) : d = .bl b := by rcases r with r | ⟨_, _, _, z, _⟩; (cases r; rfl); cases z
theorem TR.int {b : Int} (r : TR X h d (.int b)) : d = .int b := by rcases r with r | ⟨_, _, _, z, _⟩; (cases r; rfl); cases z
theorem TR.str {b : Str} (r : TR X h d (.str b)) : d = .str b := by rcases r with r | ⟨_, _, _, z, _⟩; (cases r; rfl); cases z
theorem TR.ty {b : String} (r : TR X h d (.ty b)) : d = .ty b := by rcases r with r | ⟨_, _, _, z, _⟩; (cases r; rfl); cases z
theorem TR.scr {b : List Int} (r : TR X h d (.scr b)) : d = .scr b := by rcases r with r | ⟨_, _, _, z, _⟩; (cases r; rfl); cases z
theorem TR.tup (r : TR X h d (.tup us)) : ∃ ds, d = .tup ds ∧ URels X h ds us := by
  rcases r with r | ⟨_, _, _, z, _⟩
  · cases r with | tup r => exact ⟨_, rfl, r⟩
  · cases z
theorem TR.lst (r : TR X h d (.lst us)) : ∃ n ds, d = .ref n ∧ h[n]? = some (.lst ds) ∧ URels X h ds us := by
  rcases r with r | ⟨n, us', rfl, z, ds, a, r⟩
  · cases r with | lst nx e r => exact ⟨_, _, rfl, e, r⟩
  · cases z; exact ⟨n, ds, rfl, a, r⟩
theorem URels.cat (a : URels X h ds us) (b : URels X h es ws) : URels X h (ds ++ es) (us ++ ws) := URels.append a b
def uB (op : Operator) (x y : U) : VO :=
  match op, x, y with
  | .Add, .int i, .int j => .val (.int (i + j))
  | .Add, .str a, .str b => if a.length + b.length ≤ 16777216 then .val (.str (a ++ b)) else .no
  | .Add, .tup a, .tup b => if a.length + b.length ≤ 16777216 then .val (.tup (a ++ b)) else .no
  | .Add, .lst a, .lst b => if a.length + b.length ≤ 16777216 then .new (a ++ b) else .no
  | .Sub, .int i, .int j => .val (.int (i - j))
  | .Mult, .int i, .int j => if mulOk i j then .val (.int (i * j)) else .no
  | .Mult, .str a, .int k => if a.length ≤ 1000 ∧ -1000 ≤ k ∧ k ≤ 1000 then .val (.str (strMul a k)) else .no
  | .Mult, .tup a, .int k => if a ≠ [] ∧ 2 ≤ k ∧ k ≤ 1000 ∧ a.length ≤ 1000 then .val (.tup (List.replicate k.toNat a).flatten) else .no
  | .Mult, .lst a, .int k => if -1000 ≤ k ∧ k ≤ 1000 ∧ a.length ≤ 1000 then .new (List.replicate k.toNat a).flatten else .no
  | .FloorDiv, .int i, .int j => if 0 < j ∧ j.natAbs.log2 < 9000 then .val (.int (i / j)) else .no
  | .Mod, .int i, .int j => if 0 < j then .val (.int (i % j)) else .no
  | .Pow, .int i, .int j => if powOk i j then .val (.int (i ^ j.toNat)) else .no
  | .LShift, .int i, .int j => if powOk i j then .val (.int (i * 2 ^ j.toNat)) else .no
  | .RShift, .int i, .int j => if 0 ≤ j then .val (.int (i / 2 ^ j.toNat)) else .no
  | .BitAnd, .int i, .int j => .val (.int (Builtin.bitAnd i j))
  | .BitOr, .int i, .int j => .val (.int (Builtin.bitOr i j))
  | _, _, _ => .no
theorem okIf {c : Prop} [Decidable c] {a b : Res D} {v : VO} (q : c → OkO X h a v) : OkO X h (if c then a else b) (if c then v else .no) := by
  split
  · rename_i z; exact q z
  · trivial
theorem osim_B (op : Operator) : OSim2 (opB op) (uB op) := by
  intro X h d e u w rd re
  unfold uB
  split
  all_goals first
    | trivial
    | (have a := rd.int; have b := re.int; subst a; subst b; first | exact ⟨_, rfl, .int _⟩ | (refine okIf fun z => ?_; exact ⟨_, rfl, .int _⟩))
    | (have a := rd.str; have b := re.str; subst a; subst b; refine okIf fun z => ?_; exact ⟨_, rfl, .str _⟩)
    | (have a := rd.str; have b := re.int; subst a; subst b; refine okIf fun z => ?_; exact ⟨_, rfl, .str _⟩)
    | skip
  · obtain ⟨ds, rfl, r1⟩ := rd.tup
    obtain ⟨es, rfl, r2⟩ := re.tup
    show OkO X h (if ds.length + es.length ≤ 16777216 then .ok (.tup (ds ++ es)) h else .no) _
    rw [r1.length, r2.length]
    exact okIf fun _ => ⟨_, rfl, .tup (r1.cat r2)⟩
  · obtain ⟨m, ds, rfl, a1, r1⟩ := rd.lst
    obtain ⟨n, es, rfl, a2, r2⟩ := re.lst
    rw [o_catL, a1, a2]
    dsimp only
    rw [r1.length, r2.length]
    exact okIf fun _ => ⟨_, rfl, r1.cat r2⟩
  · obtain ⟨ds, rfl, r1⟩ := rd.tup
    have b := re.int; subst b
    rename_i a k
    show OkO X h (if ds ≠ [] ∧ 2 ≤ k ∧ k ≤ 1000 ∧ ds.length ≤ 1000 then .ok (.tup (List.replicate k.toNat ds).flatten) h else .no) _
    have c : (ds ≠ [] ∧ 2 ≤ k ∧ k ≤ 1000 ∧ ds.length ≤ 1000) = (a ≠ [] ∧ 2 ≤ k ∧ k ≤ 1000 ∧ a.length ≤ 1000) := by
      rw [r1.length]
      cases r1 <;> simp
    simp only [c]
    exact okIf fun _ => ⟨_, rfl, .tup (r1.flat _)⟩
  · obtain ⟨m, ds, rfl, a1, r1⟩ := rd.lst
    have b := re.int; subst b
    rename_i a k
    show OkO X h (match h[m]? with | some (.lst a) => if -1000 ≤ k ∧ k ≤ 1000 ∧ a.length ≤ 1000 then .ok (.ref h.length) (h ++ [.lst (List.replicate k.toNat a).flatten]) else .no | _ => .no) _
    rw [a1]
    dsimp only
    rw [r1.length]
    exact okIf fun _ => ⟨_, rfl, r1.flat _⟩
/-! ### comparisons -/
def toPyU : Nat → U → Option PyData
  | 0, _ => none
  | f + 1, u => match u with
    | .non => some .none
    | .bl b => some (.bool b)
    | .int i => some (.int i)
    | .str x => some (.str x)
    | .tup xs => (xs.mapM (toPyU f)).map .tuple
    | .scr ns => some (.list (ns.map .int))
    | .lst xs => (xs.mapM (toPyU f)).map .list
    | _ => none
theorem mapM_rel {f : D → Option PyData} {g : U → Option PyData} (q : ∀ {d : D} {u : U}, URel X h d u → f d = g u) : ∀ {ds : List D} {us : List U}, URels X h ds us → ds.mapM f = us.mapM g
  | _, _, .nil => rfl
  | _, _, .cons r s => by rw [List.mapM_cons, List.mapM_cons, q r, mapM_rel q s]
theorem toPy_rel : ∀ (f : Nat) {d : D} {u : U}, URel X h d u → toPy f h d = toPyU f u
  | 0, _, _, _ => rfl
  | f + 1, _, _, r => by
    cases r with
    | tup r =>
      show (List.mapM (toPy f h) _).map PyData.tuple = (List.mapM (toPyU f) _).map PyData.tuple
      rw [mapM_rel (toPy_rel f) r]
    | lst nx a r =>
      rename_i n ds us
      show (match h[n]? with | some (.lst xs) => (xs.mapM (toPy f h)).map PyData.list | _ => none) = (List.mapM (toPyU f) us).map PyData.list
      rw [a]
      dsimp only
      rw [mapM_rel (toPy_rel f) r]
    | edi nx a =>
      rename_i n
      show (match h[n]? with | some (.lst xs) => (xs.mapM (toPy f h)).map PyData.list | _ => none) = none
      rw [a]
    | _ => rfl
theorem toPy_tr (f : Nat) (r : TR X h d u) : toPy f h d = toPyU f u := by
  rcases r with r | ⟨n, us, rfl, rfl, ds, a, r⟩
  · exact toPy_rel f r
  · cases f with
    | zero => rfl
    | succ f =>
      show (match h[n]? with | some (.lst xs) => (xs.mapM (toPy f h)).map PyData.list | _ => none) = (List.mapM (toPyU f) us).map PyData.list
      rw [a]
      dsimp only
      rw [mapM_rel (toPy_rel f) r]
def eqU (x y : U) : Option Bool := match toPyU 66 x, toPyU 66 y with
  | some a, some b => if SeqAt.shaped a && SeqAt.shaped b then some (PyData.eqv a b) else none
  | _, _ => none
theorem eqD_tr (a : TR X h d u) (b : TR X h e w) : eqD h d e = eqU u w := by
  unfold eqD eqU
  rw [toPy_tr 66 a, toPy_tr 66 b]
  all_goals first | rfl | (cases toPyU 66 u <;> cases toPyU 66 w <;> rfl)
def flatU : U → Bool
  | .non | .bl _ | .int _ | .str _ => true
  | _ => false
def eqFU : U → U → Bool
  | .non, .non => true
  | .bl a, .bl b => a == b
  | .bl a, .int b => (if a then 1 else 0) == b
  | .int a, .bl b => a == (if b then 1 else 0)
  | .int a, .int b => a == b
  | .str a, .str b => a == b
  | _, _ => false
def inFU (x : U) (xs : List U) : Bool := xs.any fun y => eqFU y x
theorem flat_tr (a : TR X h d u) : flatD d = flatU u := by
  rcases a with a | ⟨n, us, rfl, rfl, _⟩
  · cases a <;> rfl
  · rfl
theorem eqF_tr (a : TR X h d u) (b : TR X h e w) : eqF d e = eqFU u w := by
  rcases a with a | ⟨n, us, rfl, rfl, _⟩
  · rcases b with b | ⟨n, us, rfl, rfl, _⟩
    · cases a <;> cases b <;> rfl
    · cases a <;> rfl
  · rcases b with b | ⟨n, us, rfl, rfl, _⟩
    · cases b <;> rfl
    · rfl
theorem flats_rel : ∀ {ds : List D} {us : List U}, URels X h ds us → ds.all flatD = us.all flatU
  | _, _, .nil => rfl
  | _, _, .cons r s => by rw [List.all_cons, List.all_cons, flat_tr (.inl r), flats_rel s]
theorem inF_rel (a : TR X h d u) : ∀ {ds : List D} {us : List U}, URels X h ds us → inF d ds = inFU u us
  | _, _, .nil => rfl
  | _, _, .cons r s => by
    have q := inF_rel a s
    unfold inF inFU at q ⊢
    rw [List.any_cons, List.any_cons, eqF_tr (.inl r) a, q]
def inU (x y : U) : Option Bool :=
  match x, y with
  | .str a, .str b => some (inStr a b)
  | x, .tup xs => if flatU x && xs.all flatU then some (inFU x xs) else none
  | x, .lst xs => if flatU x && xs.all flatU then some (inFU x xs) else match toPyU 66 x, toPyU 66 (.lst xs) with
      | some a, some (.list ds) => if SeqAt.shaped a && SeqAt.shaped (.list ds) then some (ds.any fun z => PyData.eqv z a) else none
      | _, _ => none
  | _, _ => none
theorem inD_ref {n : Nat} : inD h d (.ref n) = match h[n]? with
    | some (.lst xs) => if flatD d && xs.all flatD then some (inF d xs) else match toPy 66 h d, toPy 66 h (.ref n) with
      | some a, some (.list ds) => if SeqAt.shaped a && SeqAt.shaped (.list ds) then some (ds.any fun z => PyData.eqv z a) else none
      | _, _ => none
    | _ => none := by cases d <;> rfl
theorem inD_tup {xs : List D} : inD h d (.tup xs) = if flatD d && xs.all flatD then some (inF d xs) else none := by cases d <;> rfl
theorem inD_tr (a : TR X h d u) (b : TR X h e w) : (inU u w).isSome = true → inD h d e = inU u w := by
  intro q
  unfold inU at q ⊢
  split
  · have a := a.str; have b := b.str; subst a; subst b; rfl
  · obtain ⟨es, rfl, r⟩ := b.tup
    rw [inD_tup, flat_tr a, flats_rel r, inF_rel a r]
  · have tb := toPy_tr 66 b
    obtain ⟨n, es, rfl, e1, r⟩ := b.lst
    rw [inD_ref, e1]
    dsimp only
    rw [flat_tr a, flats_rel r, inF_rel a r, toPy_tr 66 a, tb]
  · exfalso
    split at q <;> simp_all
def isNonU : U → Bool
  | .non => true
  | _ => false
def blO : Option Bool → VO
  | some b => .val (.bl b)
  | none => .no
def uC (op : CmpOp) (x y : U) : VO :=
  match op with
  | .Lt => match x, y with
    | .int i, .int j => .val (.bl (decide (i < j)))
    | .str i, .str j => .val (.bl (decide (i.cps.toList < j.cps.toList)))
    | _, _ => .no
  | .LtE => match x, y with
    | .int i, .int j => .val (.bl (decide (i ≤ j)))
    | .str i, .str j => .val (.bl (!decide (j.cps.toList < i.cps.toList)))
    | _, _ => .no
  | .Gt => match x, y with
    | .int i, .int j => .val (.bl (decide (j < i)))
    | .str i, .str j => .val (.bl (decide (j.cps.toList < i.cps.toList)))
    | _, _ => .no
  | .GtE => match x, y with
    | .int i, .int j => .val (.bl (decide (j ≤ i)))
    | .str i, .str j => .val (.bl (!decide (i.cps.toList < j.cps.toList)))
    | _, _ => .no
  | .Is => match x, y with
    | x, .non => .val (.bl (isNonU x))
    | .bl a, .bl b => .val (.bl (decide (a = b)))
    | _, _ => .no
  | .IsNot => match x, y with
    | x, .non => .val (.bl (!isNonU x))
    | .bl a, .bl b => .val (.bl (!decide (a = b)))
    | _, _ => .no
  | .Eq => match x, y with
    | .int i, .int j => .val (.bl (decide (i = j)))
    | .str i, .str j => .val (.bl (decide (i = j)))
    | .bl i, .bl j => .val (.bl (decide (i = j)))
    | x, y => blO (eqU x y)
  | .NotEq => match x, y with
    | .int i, .int j => .val (.bl (!decide (i = j)))
    | .str i, .str j => .val (.bl (!decide (i = j)))
    | .bl i, .bl j => .val (.bl (!decide (i = j)))
    | x, y => blO ((eqU x y).map not)
  | .In => blO (inU x y)
  | .NotIn => blO ((inU x y).map not)
theorem isNon_tr (a : TR X h d u) : isNon d = isNonU u := by
  rcases a with a | ⟨n, us, rfl, rfl, _⟩
  · cases a <;> rfl
  · rfl
theorem okB {o : Option Bool} : OkO X h (retB o h) (blO o) := by
  cases o with
  | none => trivial
  | some b => exact ⟨_, rfl, .bl b⟩
theorem osim_C (op : CmpOp) : OSim2 (opC op) (uC op) := by
  intro X h d e u w rd re
  have inn : ∀ f : Option Bool → Option Bool, f none = none → OkO X h (retB (f (inD h d e)) h) (blO (f (inU u w))) := fun f hf => by
    cases q : inU u w with
    | none => rw [hf]; trivial
    | some b =>
      rw [inD_tr rd re (by rw [q]; rfl), q]
      exact okB
  have eqq : ∀ f : Option Bool → Option Bool, OkO X h (retB (f (eqD h d e)) h) (blO (f (eqU u w))) := fun f => by
    rw [eqD_tr rd re]
    exact okB
  cases op with
  | In => exact inn id rfl
  | NotIn => exact inn (Option.map not) rfl
  | Is =>
    unfold uC; dsimp only; split
    · have b := re.non; subst b
      have : opC .Is d .non h = .ok (.bl (isNon d)) h := by cases d <;> rfl
      rw [this, isNon_tr rd]; exact ⟨_, rfl, .bl _⟩
    · have a := rd.bl; have b := re.bl; subst a; subst b; exact ⟨_, rfl, .bl _⟩
    · trivial
  | IsNot =>
    unfold uC; dsimp only; split
    · have b := re.non; subst b
      have : opC .IsNot d .non h = .ok (.bl (!isNon d)) h := by cases d <;> rfl
      rw [this, isNon_tr rd]; exact ⟨_, rfl, .bl _⟩
    · have a := rd.bl; have b := re.bl; subst a; subst b; exact ⟨_, rfl, .bl _⟩
    · trivial
  | Eq =>
    unfold uC; dsimp only; split
    · have a := rd.int; have b := re.int; subst a; subst b; exact ⟨_, rfl, .bl _⟩
    · have a := rd.str; have b := re.str; subst a; subst b; exact ⟨_, rfl, .bl _⟩
    · have a := rd.bl; have b := re.bl; subst a; subst b; exact ⟨_, rfl, .bl _⟩
    · rename_i q1 q2 q3
      have : opC .Eq d e h = retB (eqD h d e) h := by
        rcases rd with rd | ⟨n, us, rfl, rfl, _⟩
        · rcases re with re | ⟨n, us, rfl, rfl, _⟩
          · cases rd <;> cases re <;> first | rfl | exact absurd rfl (q1 _ _ rfl) | exact absurd rfl (q2 _ _ rfl) | exact absurd rfl (q3 _ _ rfl)
          · cases rd <;> rfl
        · cases e <;> rfl
      rw [this]
      exact eqq id
  | NotEq =>
    unfold uC; dsimp only; split
    · have a := rd.int; have b := re.int; subst a; subst b; exact ⟨_, rfl, .bl _⟩
    · have a := rd.str; have b := re.str; subst a; subst b; exact ⟨_, rfl, .bl _⟩
    · have a := rd.bl; have b := re.bl; subst a; subst b; exact ⟨_, rfl, .bl _⟩
    · rename_i q1 q2 q3
      have : opC .NotEq d e h = retB ((eqD h d e).map not) h := by
        rcases rd with rd | ⟨n, us, rfl, rfl, _⟩
        · rcases re with re | ⟨n, us, rfl, rfl, _⟩
          · cases rd <;> cases re <;> first | rfl | exact absurd rfl (q1 _ _ rfl) | exact absurd rfl (q2 _ _ rfl) | exact absurd rfl (q3 _ _ rfl)
          · cases rd <;> rfl
        · cases e <;> rfl
      rw [this]
      exact eqq (Option.map not)
  | _ =>
    unfold uC; dsimp only; split
    · have a := rd.int; have b := re.int; subst a; subst b; exact ⟨_, rfl, .bl _⟩
    · have a := rd.str; have b := re.str; subst a; subst b; exact ⟨_, rfl, .bl _⟩
    · trivial
end
end
end PyI
-- PvP
/-! PvP: built-ins, subscripts, slices, methods on values -/
namespace PyI
noncomputable section
open PySem PySem.Spec L2
def listU : U → Option (List U)
  | .tup xs => some xs
  | .scr ns => some (ns.map .int)
  | .lst xs => some xs
  | _ => none
def intsU : List U → Option (List Int)
  | [] => some []
  | .int i :: r => (intsU r).map (i :: ·)
  | _ => none
def boolsU : List U → Option (List Bool)
  | [] => some []
  | .bl i :: r => (boolsU r).map (i :: ·)
  | _ => none
def strsU : List U → Option (List Str)
  | [] => some []
  | .str i :: r => (strsU r).map (i :: ·)
  | _ => none
def tyU : U → Option Ty
  | .non => some .non
  | .bl _ => some .bool
  | .int _ => some .int
  | .str _ => some .str
  | .tup _ => some .tuple
  | .scr _ => some .list
  | .lst _ => some .list
  | .edi => some .dict
  | _ => none
def isiU (x : U) (n : String) : Option Bool := (tyU x).bind fun t => isTy t n
def reprU (x : U) : Option Str := (toPyU 66 x).bind fun p => if p.showable && SeqAt.shaped p && cpsOk p && decide (rsz p ≤ 1000000) then some p.shown else none
def valO : Option U → VO
  | some u => .val u
  | none => .no
def newO : Option (List U) → VO
  | some u => .new u
  | none => .no
section
variable {X Y : Nat → Prop} {h h' : DH} {d e : D} {u w : U} {ds es : List D} {us ws : List U}
theorem ints_urel : ∀ ns : List Int, URels X h (ns.map .int) (ns.map .int)
  | [] => .nil
  | _ :: r => .cons (.int _) (ints_urel r)
theorem strs_urel : ∀ ns : List Str, URels X h (ns.map .str) (ns.map .str)
  | [] => .nil
  | _ :: r => .cons (.str _) (strs_urel r)
theorem listOf_tr (r : TR X h d u) (q : listU u = some us) : ∃ ds, listOf h d = some ds ∧ URels X h ds us := by
  unfold listU at q
  split at q
  · cases q; obtain ⟨ds, rfl, r1⟩ := r.tup; exact ⟨ds, rfl, r1⟩
  · cases q; have a := r.scr; subst a; exact ⟨_, rfl, ints_urel _⟩
  · cases q; obtain ⟨n, ds, rfl, a, r1⟩ := r.lst; exact ⟨ds, by unfold listOf; dsimp only; rw [a], r1⟩
  · cases q
theorem intsOf_urel : ∀ {ds : List D} {us : List U}, URels X h ds us → intsOf ds = intsU us
  | _, _, .nil => rfl
  | _, _, .cons r s => by
    cases r with
    | int i => show (intsOf _).map _ = (intsU _).map _; rw [intsOf_urel s]
    | _ => rfl
theorem boolsOf_urel : ∀ {ds : List D} {us : List U}, URels X h ds us → boolsOf ds = boolsU us
  | _, _, .nil => rfl
  | _, _, .cons r s => by
    cases r with
    | bl i => show (boolsOf _).map _ = (boolsU _).map _; rw [boolsOf_urel s]
    | _ => rfl
theorem strsOf_urel : ∀ {ds : List D} {us : List U}, URels X h ds us → strsOf ds = strsU us
  | _, _, .nil => rfl
  | _, _, .cons r s => by
    cases r with
    | str i => show (strsOf _).map _ = (strsU _).map _; rw [strsOf_urel s]
    | _ => rfl
theorem tyOf_tr (r : TR X h d u) : tyOf h d = tyU u := by
  rcases r with r | ⟨n, us, rfl, rfl, ds, a, r⟩
  · cases r with
    | lst nx a r => unfold tyOf tyU; dsimp only; rw [a]
    | edi nx a => unfold tyOf tyU; dsimp only; rw [a]
    | _ => rfl
  · unfold tyOf tyU; dsimp only; rw [a]
theorem repr_tr (r : TR X h d u) : reprOf h d = reprU u := by
  unfold reprOf reprU
  rw [toPy_tr 66 r]
theorem trs1 (r : TRs X h ds [u]) : ∃ d, ds = [d] ∧ TR X h d u := by cases r with | cons a b => cases b; exact ⟨_, rfl, a⟩
theorem trs0 (r : TRs X h ds []) : ds = [] := by cases r; rfl
theorem trs2 (r : TRs X h ds [u, w]) : ∃ d e, ds = [d, e] ∧ TR X h d u ∧ TR X h e w := by cases r with | cons a b => cases b with | cons b c => cases c; exact ⟨_, _, rfl, a, b⟩
theorem retD_val {o : Option D} {v : Option U} (q : ∀ u, v = some u → ∃ d, o = some d ∧ URel X h d u) : OkO X h (retD o h) (valO v) := by
  cases v with
  | none => trivial
  | some u => obtain ⟨d, rfl, r⟩ := q u rfl; exact ⟨d, rfl, r⟩
end
def orO {α : Type} : Option α → Option α → Option α
  | some x, _ => some x
  | none, y => y
def rowsU : List U → Option (List (List Int))
  | [] => some []
  | .tup us :: r => match intsU us with
    | some (x :: l) => (rowsU r).map ((x :: l) :: ·)
    | _ => none
  | _ => none
def sortPyU (l : List U) : Option (List U) := match strsU l with
  | some ss => some ((ss.mergeSort strLe).map .str)
  | none => (rowsU l).map fun rs => (rs.mergeSort rowLe).map fun r => .tup (r.map .int)
def sortUP : U → Option (List U)
  | .lst l => sortPyU l
  | _ => none
theorem rows_urel : ∀ {ds : List D} {us : List U}, URels X h ds us → rowsOf ds = rowsU us
  | _, _, .nil => rfl
  | _, _, .cons r s => by
    have ih := rows_urel s
    cases r with
    | tup q =>
      unfold rowsOf rowsU
      first
        | (rw [intsOf_urel q, ih]; done)
        | (rw [intsOf_urel q, ih]; rename_i us0; rcases intsU us0 with _ | ⟨_ | _⟩ <;> rfl)
    | _ => rfl
theorem rowsT_urel {X : Nat → Prop} {h : DH} : ∀ rs : List (List Int), URels X h (rs.map fun r => D.tup (r.map .int)) (rs.map fun r => U.tup (r.map .int))
  | [] => .nil
  | r :: rs => .cons (.tup (ints_urel r)) (rowsT_urel rs)
theorem bltF_sorted (d : D) (h : DH) : bltF .sorted [d] h = (match (listOf h d).bind intsOf with
      | some l => .ok (.ref h.length) (h ++ [.lst ((isort l).map .int)])
      | none => match d with
        | .ref n => match (listOf h (.ref n)).bind sortPy with
          | some l => .ok (.ref h.length) (h ++ [.lst l])
          | none => .no
        | _ => .no) := rfl
theorem sortPy_urel {X : Nat → Prop} {h : DH} {ds : List D} {us us' : List U} (r : URels X h ds us) (q : sortPyU us = some us') : ∃ ds', sortPy ds = some ds' ∧ URels X h ds' us' := by
  unfold sortPyU at q
  unfold sortPy
  rw [strsOf_urel r, rows_urel r]
  cases z : strsU us with
  | some ss => rw [z] at q; cases q; exact ⟨_, rfl, strs_urel _⟩
  | none =>
    rw [z] at q
    dsimp only at q ⊢
    obtain ⟨rs, e, rfl⟩ := map_inv q
    rw [e]
    exact ⟨_, rfl, rowsT_urel _⟩
def charsU (x : Str) : List U := x.cps.toList.map fun c => .str ⟨#[c]⟩
def listUS : U → Option (List U)
  | .str z => if z.length ≤ 16777216 then some (charsU z) else none
  | u => listU u
theorem chars_urel {X : Nat → Prop} {h : DH} (z : Str) : URels X h (charsD z) (charsU z) := by
  unfold charsD charsU
  induction z.cps.toList with
  | nil => exact .nil
  | cons c l ih => exact .cons (.str _) ih
theorem listOfS_tr {X : Nat → Prop} {h : DH} {d : D} {u : U} {us : List U} (r : TR X h d u) (q : listUS u = some us) : ∃ ds, listOfS h d = some ds ∧ URels X h ds us := by
  unfold listUS at q
  split at q
  · rename_i z
    have a := r.str
    subst a
    split at q
    · rename_i hz
      cases q
      exact ⟨charsD z, by unfold listOfS; exact if_pos hz, chars_urel z⟩
    · cases q
  · rename_i hu
    obtain ⟨ds, e, k⟩ := listOf_tr r q
    refine ⟨ds, ?_, k⟩
    unfold listOfS
    split
    · rename_i z
      cases e
    · exact e
def bltU (b : Blt) (xs : List U) : VO :=
  match b with
  | .len => match xs with
    | [.str a] => if a.length ≤ 16777216 then .val (.int a.length) else .no
    | [x] => valO ((listU x).map fun l => .int l.length)
    | _ => .no
  | .abs => match xs with
    | [.int i] => .val (.int (if i < 0 then -i else i))
    | _ => .no
  | .max => match xs with
    | [.int i, .int j] => .val (.int (if j > i then j else i))
    | [.lst l] => valO (((intsU l).bind maxL).map .int)
    | [.tup l] => valO (((intsU l).bind maxL).map .int)
    | _ => .no
  | .min => match xs with
    | [.int i, .int j] => .val (.int (if j < i then j else i))
    | [.lst l] => valO (((intsU l).bind minL).map .int)
    | [.tup l] => valO (((intsU l).bind minL).map .int)
    | _ => .no
  | .int => match xs with
    | [.int i] => .val (.int i)
    | [.bl k] => .val (.int (if k then 1 else 0))
    | [.str a] => if a.length ≤ 640 then valO ((PySem.intText? a).map .int) else .no
    | _ => .no
  | .divmod => match xs with
    | [.int i, .int j] => if 0 < j ∧ j < hid 1267650600228229401496703205376 then .val (.tup [.int (i / j), .int (i % j)]) else .no
    | _ => .no
  | .isinst => match xs with
    | [x, .ty n] => valO ((isiU x n).map .bl)
    | _ => .no
  | .list => match xs with
    | [x] => newO (listUS x)
    | _ => .no
  | .tuple => match xs with
    | [x] => valO ((listU x).map .tup)
    | _ => .no
  | .all => match xs with
    | [.lst l] => valO ((boolsU l).map fun l => .bl (l.all id))
    | _ => .no
  | .any => match xs with
    | [.lst l] => valO ((boolsU l).map fun l => .bl (l.any id))
    | _ => .no
  | .sum => match xs with
    | [.lst l] => valO ((intsU l).map fun l => .int l.sum)
    | _ => .no
  | .sorted => match xs with
    | [x] => newO (orO (((listU x).bind intsU).map fun l => (isort l).map .int) (sortUP x))
    | _ => .no
  | .repr => match xs with
    | [x] => valO ((reprU x).map .str)
    | _ => .no
  | .str => match xs with
    | [.int i] => if i.natAbs.log2 < 1920 then .val (.str (toString i)) else .no
    | [.str a] => .val (.str a)
    | _ => .no
section
variable {X Y : Nat → Prop} {h h' : DH} {d e : D} {u w : U} {ds es : List D} {us ws : List U}
theorem lst_list {l : List U} (r : TR X h d (.lst l)) : ∃ n ds, d = .ref n ∧ listOf h (.ref n) = some ds ∧ URels X h ds l := by
  obtain ⟨n, ds, rfl, a, r1⟩ := r.lst
  exact ⟨n, ds, rfl, by unfold listOf; dsimp only; rw [a], r1⟩
theorem osim_Blt (b : Blt) : OSimL (bltF b) (bltU b) := by
  intro X h ds us rs0
  unfold bltU
  cases b <;> dsimp only
  case len =>
    split
    · obtain ⟨d, rfl, r⟩ := trs1 rs0
      have a := r.str; subst a
      exact okIf fun _ => ⟨_, rfl, .int _⟩
    · rename_i x q
      obtain ⟨d, rfl, r⟩ := trs1 rs0
      have e : bltF .len [d] h = retD ((listOf h d).map fun l => .int l.length) h := by
        rcases r with r | ⟨n, us, rfl, rfl, _⟩
        · cases r <;> first | rfl | exact absurd rfl (q _)
        · rfl
      rw [e]
      refine retD_val fun u eu => ?_
      obtain ⟨l, e1, rfl⟩ := map_inv eu
      obtain ⟨ds, e2, r2⟩ := listOf_tr r e1
      rw [e2]
      exact ⟨.int (ds.length : Nat), rfl, by rw [r2.length]; exact .int _⟩
    · trivial
  case abs => split; (obtain ⟨d, rfl, r⟩ := trs1 rs0; have a := r.int; subst a; exact ⟨_, rfl, .int _⟩); trivial
  case max =>
    split
    · obtain ⟨d, e, rfl, r1, r2⟩ := trs2 rs0; have a := r1.int; have b := r2.int; subst a; subst b; exact ⟨_, rfl, .int _⟩
    · obtain ⟨d, rfl, r⟩ := trs1 rs0
      obtain ⟨n, ds, rfl, e, r⟩ := lst_list r
      show OkO X h (retD (((listOf h (.ref n)).bind intsOf).bind maxL |>.map .int) h) _
      rw [e, Option.bind_some, intsOf_urel r]
      exact retD_val fun u eu => by obtain ⟨i, e1, rfl⟩ := map_inv eu; rw [e1]; exact ⟨_, rfl, .int _⟩
    · obtain ⟨d, rfl, r⟩ := trs1 rs0
      obtain ⟨ds, rfl, r2⟩ := r.tup
      show OkO X h (retD (((intsOf ds).bind maxL).map .int) h) _
      rw [intsOf_urel r2]
      exact retD_val fun u eu => by obtain ⟨i, e1, rfl⟩ := map_inv eu; rw [e1]; exact ⟨_, rfl, .int _⟩
    · trivial
  case min =>
    split
    · obtain ⟨d, e, rfl, r1, r2⟩ := trs2 rs0; have a := r1.int; have b := r2.int; subst a; subst b; exact ⟨_, rfl, .int _⟩
    · obtain ⟨d, rfl, r⟩ := trs1 rs0
      obtain ⟨n, ds, rfl, e, r⟩ := lst_list r
      show OkO X h (retD (((listOf h (.ref n)).bind intsOf).bind minL |>.map .int) h) _
      rw [e, Option.bind_some, intsOf_urel r]
      exact retD_val fun u eu => by obtain ⟨i, e1, rfl⟩ := map_inv eu; rw [e1]; exact ⟨_, rfl, .int _⟩
    · obtain ⟨d, rfl, r⟩ := trs1 rs0
      obtain ⟨ds, rfl, r2⟩ := r.tup
      show OkO X h (retD (((intsOf ds).bind minL).map .int) h) _
      rw [intsOf_urel r2]
      exact retD_val fun u eu => by obtain ⟨i, e1, rfl⟩ := map_inv eu; rw [e1]; exact ⟨_, rfl, .int _⟩
    · trivial
  case int =>
    split
    · obtain ⟨d, rfl, r⟩ := trs1 rs0; have a := r.int; subst a; exact ⟨_, rfl, .int _⟩
    · obtain ⟨d, rfl, r⟩ := trs1 rs0; have a := r.bl; subst a; exact ⟨_, rfl, .int _⟩
    · obtain ⟨d, rfl, r⟩ := trs1 rs0; have a := r.str; subst a
      refine okIf fun _ => ?_
      exact retD_val fun u eu => by obtain ⟨i, e1, rfl⟩ := map_inv eu; rw [e1]; exact ⟨_, rfl, .int _⟩
    · trivial
  case divmod =>
    split
    · obtain ⟨d, e, rfl, r1, r2⟩ := trs2 rs0; have a := r1.int; have b := r2.int; subst a; subst b
      exact okIf fun _ => ⟨_, rfl, .tup (.cons (.int _) (.cons (.int _) .nil))⟩
    · trivial
  case isinst =>
    split
    · rename_i x n
      obtain ⟨d, e, rfl, r1, r2⟩ := trs2 rs0; have b := r2.ty; subst b
      show OkO X h (retD ((isi h d _).map .bl) h) _
      have : isi h d = isiU x := by funext n; unfold isi isiU; rw [tyOf_tr r1]
      rw [this]
      exact retD_val fun u eu => by obtain ⟨i, e1, rfl⟩ := map_inv eu; rw [e1]; exact ⟨_, rfl, .bl _⟩
    · trivial
  case list =>
    split
    · rename_i x
      obtain ⟨d, rfl, r⟩ := trs1 rs0
      cases e : listUS x with
      | none => trivial
      | some l =>
        obtain ⟨ds, e2, r2⟩ := listOfS_tr r e
        show OkO X h (match listOfS h d with | some l => .ok (.ref h.length) (h ++ [.lst l]) | none => .no) _
        rw [e2]
        exact ⟨ds, rfl, r2⟩
    · trivial
  case tuple =>
    split
    · rename_i x
      obtain ⟨d, rfl, r⟩ := trs1 rs0
      refine retD_val fun u eu => ?_
      obtain ⟨l, e1, rfl⟩ := map_inv eu
      obtain ⟨ds, e2, r2⟩ := listOf_tr r e1
      rw [e2]
      exact ⟨_, rfl, .tup r2⟩
    · trivial
  case all =>
    split
    · obtain ⟨d, rfl, r⟩ := trs1 rs0
      obtain ⟨n, ds, rfl, e, r⟩ := lst_list r
      show OkO X h (retD (((listOf h (.ref n)).bind boolsOf).map fun l => .bl (l.all id)) h) _
      rw [e, Option.bind_some, boolsOf_urel r]
      exact retD_val fun u eu => by obtain ⟨i, e1, rfl⟩ := map_inv eu; rw [e1]; exact ⟨_, rfl, .bl _⟩
    · trivial
  case any =>
    split
    · obtain ⟨d, rfl, r⟩ := trs1 rs0
      obtain ⟨n, ds, rfl, e, r⟩ := lst_list r
      show OkO X h (retD (((listOf h (.ref n)).bind boolsOf).map fun l => .bl (l.any id)) h) _
      rw [e, Option.bind_some, boolsOf_urel r]
      exact retD_val fun u eu => by obtain ⟨i, e1, rfl⟩ := map_inv eu; rw [e1]; exact ⟨_, rfl, .bl _⟩
    · trivial
  case sum =>
    split
    · obtain ⟨d, rfl, r⟩ := trs1 rs0
      obtain ⟨n, ds, rfl, e, r⟩ := lst_list r
      show OkO X h (retD (((listOf h (.ref n)).bind intsOf).map fun l => .int l.sum) h) _
      rw [e, Option.bind_some, intsOf_urel r]
      exact retD_val fun u eu => by obtain ⟨i, e1, rfl⟩ := map_inv eu; rw [e1]; exact ⟨_, rfl, .int _⟩
    · trivial
  case sorted =>
    split
    · rename_i x
      obtain ⟨d, rfl, r⟩ := trs1 rs0
      rw [bltF_sorted]
      cases e : (listU x).bind intsU with
      | none =>
        cases e4 : sortUP x with
        | none => trivial
        | some l' =>
          cases x with
          | lst l =>
            obtain ⟨n, ds, rfl, a, r2⟩ := r.lst
            have e1 : listOf h (.ref n) = some ds := by unfold listOf; dsimp only; rw [a]
            have e' : intsU l = none := e
            obtain ⟨ds', e5, r5⟩ := sortPy_urel r2 e4
            rw [e1, Option.bind_some, intsOf_urel r2, e']
            dsimp only
            rw [e1, Option.bind_some, e5]
            exact ⟨_, rfl, r5⟩
          | _ => cases e4
      | some l =>
        obtain ⟨us, e1, e3⟩ := bind_inv e
        obtain ⟨ds, e2, r2⟩ := listOf_tr r e1
        rw [e2, Option.bind_some, intsOf_urel r2, e3]
        exact ⟨_, rfl, ints_urel _⟩
    · trivial
  case repr =>
    split
    · obtain ⟨d, rfl, r⟩ := trs1 rs0
      show OkO X h (retD ((reprOf h d).map .str) h) _
      rw [repr_tr r]
      exact retD_val fun u eu => by obtain ⟨i, e1, rfl⟩ := map_inv eu; rw [e1]; exact ⟨_, rfl, .str _⟩
    · trivial
  case str =>
    split
    · obtain ⟨d, rfl, r⟩ := trs1 rs0; have a := r.int; subst a; exact okIf fun _ => ⟨_, rfl, .str _⟩
    · obtain ⟨d, rfl, r⟩ := trs1 rs0; have a := r.str; subst a; exact ⟨_, rfl, .str _⟩
    · trivial
/-! ### subscripts -/
def uI (x y : U) : VO :=
  match x, y with
  | .str z, .int i => if z.length ≤ 16777216 then valO ((atI z.cps.toList i).map fun c => .str ⟨#[c]⟩) else .no
  | x, .int i => valO ((listU x).bind fun l => atI l i)
  | _, _ => .no
theorem atI_urel {i : Int} (r : URels X h ds us) (q : atI us i = some u) : ∃ d, atI ds i = some d ∧ URel X h d u := by
  unfold atI at q ⊢
  rw [r.length]
  obtain ⟨j, e, q⟩ := bind_inv q
  rw [e]
  exact r.get q
theorem opI_list {i : Int} (q : ∀ z, u ≠ .str z) (r : TR X h d u) : opI d (.int i) h = retD ((listOf h d).bind fun l => atI l i) h := by
  rcases r with r | ⟨n, us, rfl, rfl, _⟩
  · cases r <;> first | rfl | exact absurd rfl (q _)
  · rfl
theorem osim_I : OSim2 opI uI := by
  intro X h d e u w rd re
  unfold uI
  split
  · have a := rd.str; have b := re.int; subst a; subst b
    refine okIf fun _ => ?_
    exact retD_val fun u eu => by obtain ⟨i, e1, rfl⟩ := map_inv eu; rw [e1]; exact ⟨_, rfl, .str _⟩
  · rename_i i q
    have b := re.int; subst b
    rw [opI_list (fun z e => q z e) rd]
    refine retD_val fun v ev => ?_
    obtain ⟨l, e1, e2⟩ := bind_inv ev
    obtain ⟨ds, e3, r2⟩ := listOf_tr rd e1
    obtain ⟨d', e4, r3⟩ := atI_urel r2 e2
    exact ⟨d', by rw [e3]; exact e4, r3⟩
  · trivial
def uSl (x : U) (lo hi : Option Int) : VO :=
  match x with
  | .str z => if z.length ≤ 16777216 then .val (.str ⟨(cutL z.cps.toList lo hi).toArray⟩) else .no
  | .tup xs => .val (.tup (cutL xs lo hi))
  | .lst xs => .new (cutL xs lo hi)
  | .scr ns => .new (cutL (ns.map .int) lo hi)
  | _ => .no
theorem cut_urel {lo hi : Option Int} (r : URels X h ds us) : URels X h (cutL ds lo hi) (cutL us lo hi) := by
  unfold cutL
  rw [r.length]
  exact (r.drop _).take _
theorem osim_Sl {lo hi : Option Int} (rd : TR X h d u) : OkO X h (opSl d lo hi h) (uSl u lo hi) := by
  unfold uSl
  split
  · have a := rd.str; subst a; exact okIf fun _ => ⟨_, rfl, .str _⟩
  · obtain ⟨ds, rfl, r⟩ := rd.tup; exact ⟨_, rfl, .tup (cut_urel r)⟩
  · obtain ⟨n, ds, rfl, e, r⟩ := lst_list rd
    refine ⟨cutL ds lo hi, ?_, cut_urel r⟩
    show (match listOf h (.ref n) with | some l => Res.ok (D.ref h.length) (h ++ [O.lst (cutL l lo hi)]) | none => .no) = _
    rw [e]
  · have a := rd.scr; subst a; exact ⟨_, rfl, cut_urel (ints_urel _)⟩
  · trivial
/-! ### methods that change nothing -/
def idxFU (y : U) : List U → Option Nat
  | [] => none
  | x :: xs => if eqFU x y then some 0 else (idxFU y xs).map (· + 1)
theorem idxF_rel (a : TR X h d u) : ∀ {ds : List D} {us : List U}, URels X h ds us → idxF d ds = idxFU u us
  | _, _, .nil => rfl
  | _, _, .cons r s => by
    show (if eqF _ d = true then some 0 else (idxF d _).map (· + 1)) = (if eqFU _ u = true then some 0 else (idxFU u _).map (· + 1))
    rw [eqF_tr (.inl r) a, idxF_rel a s]
def mthOfU (nm : Str) (x : U) : Option Mth :=
  match x with
  | .str _ => if nm = "join" then some .join else if nm = "count" then some .scount else if nm = "startswith" then some .startswith else if nm = "endswith" then some .endswith else if nm = "split" then some .split else if nm = "lstrip" then some .lstrip else none
  | .lst _ => if nm = "append" then some .append else if nm = "pop" then some .pop else if nm = "extend" then some .extend else if nm = "index" then some .lindex else if nm = "count" then some .lcount else none
  | _ => none
def mthU (m : Mth) (x : U) (ys : List U) : VO :=
  match m with
  | .lindex => match x, ys with
    | .lst xs, [y] => if flatU y && xs.all flatU then valO ((idxFU y xs).map fun k => .int (k : Nat)) else .no
    | _, _ => .no
  | .lcount => match x, ys with
    | .lst xs, [.int k] => valO ((intsU xs).map fun ns => .int (ns.count k : Nat))
    | _, _ => .no
  | .scount => match x, ys with
    | .str a, [.str b] => .val (.int (Txt.count a b))
    | _, _ => .no
  | .join => match x, ys with
    | .str a, [y] => match (listU y).bind strsU with
      | some ys => if (ys.map (·.length)).sum + ys.length * a.length ≤ 16777216 then .val (.str (Txt.join a ys)) else .no
      | none => .no
    | _, _ => .no
  | .startswith => match x, ys with
    | .str a, [.str b] => .val (.bl (Txt.startswith a b))
    | _, _ => .no
  | .endswith => match x, ys with
    | .str a, [.str b] => .val (.bl (Txt.endswith a b))
    | _, _ => .no
  | .split => match x, ys with
    | .str a, [.str b] => if (b.length == 0) = false ∧ a.length + 2 ≤ 16777216 then .new ((Txt.split a b).map .str) else .no
    | _, _ => .no
  | .lstrip => match x, ys with
    | .str a, [.str b] => if a.length ≤ 16777216 then .val (.str (Txt.lstripChars a b)) else .no
    | _, _ => .no
  | _ => .no
theorem mthOf_tr {nm : Str} {m : Mth} (r : TR X h d u) (q : mthOfU nm u = some m) : mthOf nm d h = some m := by
  unfold mthOfU at q
  split at q
  · have a := r.str; subst a; exact q
  · obtain ⟨n, ds, rfl, a, r⟩ := r.lst
    unfold mthOf; dsimp only; rw [a]; exact q
  · cases q
theorem osim_M (m : Mth) (r : TR X h d u) (rs : TRs X h ds us) : OkO X h (mthF m d ds h) (mthU m u us) := by
  unfold mthU
  cases m <;> dsimp only
  case lindex =>
    split
    · obtain ⟨n, es, rfl, a, r⟩ := r.lst
      obtain ⟨e, rfl, re⟩ := trs1 rs
      show OkO X h (match h[n]? with | some (.lst xs) => if flatD e && xs.all flatD then retD ((idxF e xs).map fun k => .int (k : Nat)) h else .no | _ => .no) _
      rw [a]
      dsimp only
      rw [flat_tr re, flats_rel r, idxF_rel re r]
      refine okIf fun _ => ?_
      exact retD_val fun u eu => by obtain ⟨i, e1, rfl⟩ := map_inv eu; rw [e1]; exact ⟨_, rfl, .int _⟩
    · trivial
  case lcount =>
    split
    · rename_i xs k
      obtain ⟨n, es, rfl, a, r⟩ := r.lst
      obtain ⟨e, rfl, re⟩ := trs1 rs
      have b := re.int; subst b
      show OkO X h (match h[n]? with | some (.lst xs) => retD ((intsOf xs).map fun ns => .int (ns.count k : Nat)) h | _ => .no) _
      rw [a]
      dsimp only
      rw [intsOf_urel r]
      exact retD_val fun u eu => by obtain ⟨i, e1, rfl⟩ := map_inv eu; rw [e1]; exact ⟨_, rfl, .int _⟩
    · trivial
  case scount => split; (have a := r.str; obtain ⟨e, rfl, re⟩ := trs1 rs; have b := re.str; subst a; subst b; exact ⟨_, rfl, .int _⟩); trivial
  case startswith => split; (have a := r.str; obtain ⟨e, rfl, re⟩ := trs1 rs; have b := re.str; subst a; subst b; exact ⟨_, rfl, .bl _⟩); trivial
  case endswith => split; (have a := r.str; obtain ⟨e, rfl, re⟩ := trs1 rs; have b := re.str; subst a; subst b; exact ⟨_, rfl, .bl _⟩); trivial
  case lstrip =>
    split
    · have a := r.str; obtain ⟨e, rfl, re⟩ := trs1 rs; have b := re.str; subst a; subst b
      exact okIf fun _ => ⟨_, rfl, .str _⟩
    · trivial
  case split =>
    split
    · have a := r.str; obtain ⟨e, rfl, re⟩ := trs1 rs; have b := re.str; subst a; subst b
      exact okIf fun _ => ⟨_, rfl, strs_urel _⟩
    · trivial
  case join =>
    split
    · rename_i a y
      have q := r.str; subst q
      obtain ⟨e, rfl, re⟩ := trs1 rs
      cases q : (listU y).bind strsU with
      | none => trivial
      | some l =>
        obtain ⟨us, e1, e3⟩ := bind_inv q
        obtain ⟨ds, e2, r2⟩ := listOf_tr re e1
        show OkO X h (match (listOf h e).bind strsOf with | some ys => if (ys.map (·.length)).sum + ys.length * a.length ≤ 16777216 then .ok (.str (Txt.join a ys)) h else .no | none => .no) _
        rw [e2, Option.bind_some, strsOf_urel r2, e3]
        exact okIf fun _ => ⟨_, rfl, .str _⟩
    · trivial
  all_goals trivial
def truU (d : U) : Option Bool := match d with
  | .non => some false
  | .bl b => some b
  | .int i => some (i != 0)
  | .str y => if y.length ≤ 16777216 then some ((y.length : Int) != 0) else none
  | d => (listU d).map fun l => !l.isEmpty
theorem tru_tr {b : Bool} (r : TR X h d u) (q : truU u = some b) : truOf d h = some b := by
  have gen : ∀ l, listU u = some l → b = !l.isEmpty → (listOf h d).map (fun l => !l.isEmpty) = some b := fun l e1 e => by
    obtain ⟨ds, e2, r2⟩ := listOf_tr r e1
    rw [e2, e]
    cases r2 <;> rfl
  unfold truU at q
  split at q
  · have a := r.non; subst a; exact q
  · have a := r.bl; subst a; exact q
  · have a := r.int; subst a; exact q
  · have a := r.str; subst a; exact q
  · rename_i q1 q2 q3 q4
    obtain ⟨l, e1, e2⟩ := map_inv q
    have := gen l e1 e2.symm
    rw [← this]
    rcases r with r | ⟨n, us, rfl, rfl, _⟩
    · cases r <;> first | rfl | exact absurd rfl (q1) | exact absurd rfl (q2 _) | exact absurd rfl (q3 _) | exact absurd rfl (q4 _)
    · rfl
end
end
end PyI
-- PvC
/-! PvC: results and expressions on values -/
namespace PyI
noncomputable section
open PySem PySem.Spec L2
structure XU where
  cls : Nat
  fs : List (Str × U)
inductive RG (β : Type) where
  | ok (b : β) (su : US) | exc (x : XU) (su : US) | no
def RG.bind {β γ : Type} : RG β → (β → US → RG γ) → RG γ
  | .ok b su, f => f b su
  | .exc x su, _ => .exc x su
  | .no, _ => .no
@[simp] theorem rg_ok {β γ : Type} (b : β) (su : US) (f : β → US → RG γ) : (RG.ok b su).bind f = f b su := rfl
@[simp] theorem rg_exc {β γ : Type} (x : XU) (su : US) (f : β → US → RG γ) : (RG.exc x su).bind f = .exc x su := rfl
@[simp] theorem rg_no {β γ : Type} (f : β → US → RG γ) : (RG.no).bind f = .no := rfl
inductive FRels (X : Nat → Prop) (h : DH) : List (Str × D) → List (Str × U) → Prop
  | nil : FRels X h [] []
  | cons {x : Str} {d : D} {u : U} {a : List (Str × D)} {b : List (Str × U)} : URel X h d u → FRels X h a b → FRels X h ((x, d) :: a) ((x, u) :: b)
def XR (X : Nat → Prop) (h : DH) (e : Exn) (x : XU) : Prop := e.cls = x.cls ∧ FRels X h e.fs x.fs
abbrev VRel (α β : Type) := Fm → Nat → DH → DS → US → α → β → Prop
def OkG {α β : Type} (rel : VRel α β) (F : Fm) (h0 : DH) (s : DS) (su0 : US) (r : Res α) : RG β → Prop
  | .ok b su => ∃ a h, r = .ok a h ∧ Go F h0 s su0 h s su ∧ ER F h s su ∧ rel F h0.length h s su a b
  | .exc x su => ∃ e h, r = .exc e h ∧ Go F h0 s su0 h s su ∧ ER F h s su ∧ XR (XX F s su) h e x
  | .no => True
def Sim {α β : Type} (rel : VRel α β) (m : DS → DH → Res α) (v : US → RG β) : Prop := ∀ (F : Fm) (h : DH) (s : DS) (su : US), ER F h s su → OkG rel F h s su (m s h) (v su)
class MonoR {α β : Type} (rel : VRel α β) : Prop where
  mono : ∀ {F : Fm} {l l' : Nat} {h : DH} {s : DS} {su : US} {a : α} {b : β}, l ≤ l' → rel F l' h s su a b → rel F l h s su a b
def rK : VRel D (U × Kd) := fun F l h s su d p => KR F l h s su d p.1 p.2
def rEq (α : Type) : VRel α α := fun _ _ _ _ _ a b => a = b
def rT : VRel D U := fun F _ h s su d u => TR (XX F s su) h d u
def rTs : VRel (List D) (List U) := fun F _ h s su d u => TRs (XX F s su) h d u
def rU : VRel D U := fun F _ h s su d u => URel (XX F s su) h d u
def rUs : VRel (List D) (List U) := fun F _ h s su d u => URels (XX F s su) h d u
instance : MonoR rK := ⟨fun {F l l' h s su a b} hl r => by
  obtain ⟨u, k⟩ := b
  cases k with
  | tmp => obtain ⟨n, us, a, b, c, q⟩ := r; exact ⟨n, us, a, b, Nat.le_trans hl c, q⟩
  | _ => exact r⟩
instance {α : Type} : MonoR (rEq α) := ⟨fun _ r => r⟩
instance : MonoR rT := ⟨fun _ r => r⟩
instance : MonoR rTs := ⟨fun _ r => r⟩
instance : MonoR rU := ⟨fun _ r => r⟩
instance : MonoR rUs := ⟨fun _ r => r⟩
section
variable {α β γ δ : Type} {rel : VRel α β} {rel2 : VRel γ δ} {F : Fm} {h h1 h2 : DH} {s : DS} {su su1 su2 : US}
theorem OkG.go [MonoR rel] {r : Res α} {v : RG β} (g : Go F h s su h1 s su1) (q : OkG rel F h1 s su1 r v) : OkG rel F h s su r v := by
  cases v with
  | ok b su2 => obtain ⟨a, h2, e, g2, er, q⟩ := q; exact ⟨a, h2, e, g.trans g2, er, MonoR.mono g.le q⟩
  | exc x su2 => obtain ⟨a, h2, e, g2, er, q⟩ := q; exact ⟨a, h2, e, g.trans g2, er, q⟩
  | no => trivial
theorem OkG.bind [MonoR rel2] {r : Res α} {v : RG β} {f : α → DH → Res γ} {k : β → US → RG δ} (q : OkG rel F h s su r v)
    (c : ∀ a b h1 su1, Go F h s su h1 s su1 → ER F h1 s su1 → rel F h.length h1 s su1 a b → OkG rel2 F h1 s su1 (f a h1) (k b su1)) : OkG rel2 F h s su (r.bind f) (v.bind k) := by
  cases v with
  | ok b su1 =>
    obtain ⟨a, h1, rfl, g, e, q⟩ := q
    exact OkG.go g (c a b h1 su1 g e q)
  | exc x su1 =>
    obtain ⟨a, h1, rfl, g, e, q⟩ := q
    exact ⟨a, h1, rfl, g, e, q⟩
  | no => trivial
theorem OkG.pure [MonoR rel] {a : α} {b : β} (e : ER F h s su) (q : rel F h.length h s su a b) : OkG rel F h s su (.ok a h) (.ok b su) := ⟨a, h, rfl, Go.refl, e, q⟩
end
abbrev VE := US → RG (U × Kd)
abbrev VT := US → RG Bool
abbrev VA := US → RG (List U)
def outV (v : VO) (su : US) : RG (U × Kd) := match v with
  | .val u => .ok (u, .shr) su
  | .new us => .ok (.lst us, .tmp) su
  | .no => .no
@[simp] theorem outV_val {u : U} {su : US} : outV (.val u) su = .ok (u, .shr) su := rfl
@[simp] theorem outV_new {u : List U} {su : US} : outV (.new u) su = .ok (.lst u, .tmp) su := rfl
@[simp] theorem outV_no {su : US} : outV .no su = .no := rfl
mutual
def imm : U → Bool
  | .lst _ => false
  | .edi => false
  | .tup xs => imms xs
  | _ => true
def imms : List U → Bool
  | [] => true
  | x :: r => imm x && imms r
end
section
variable {X Y : Nat → Prop} {h h' : DH}
mutual
theorem imm_rel : ∀ {d : D} {u : U}, imm u = true → URel X h d u → URel Y h' d u
  | _, _, _, .non => .non
  | _, _, _, .bl b => .bl b
  | _, _, _, .int b => .int b
  | _, _, _, .str b => .str b
  | _, _, _, .scr b => .scr b
  | _, _, _, .rng b c => .rng b c
  | _, _, _, .ty b => .ty b
  | _, _, q, .tup r => .tup (imms_rel (by unfold imm at q; exact q) r)
  | _, _, q, .lst _ _ _ => by unfold imm at q; cases q
  | _, _, q, .edi _ _ => by unfold imm at q; cases q
theorem imms_rel : ∀ {d : List D} {u : List U}, imms u = true → URels X h d u → URels Y h' d u
  | _, _, _, .nil => .nil
  | _, _, q, .cons r s => by
    unfold imms at q
    rw [Bool.and_eq_true] at q
    exact .cons (imm_rel q.1 r) (imms_rel q.2 s)
end
theorem imm_tr {d : D} {u : U} (q : imm u = true) (r : TR X h d u) : URel Y h' d u := by
  rcases r with r | ⟨n, us, rfl, rfl, _⟩
  · exact imm_rel q r
  · unfold imm at q; cases q
end
def escV (p : U × Kd) (su : US) : RG U := match p.2 with
  | .shr => .ok p.1 su
  | .tmp => .ok p.1 su
  | .bor => if imm p.1 = true then .ok p.1 su else .no
  | .view i => match su[i]? with
    | some (some (u, .own)) => .ok u (su.set i (some (u, .shr)))
    | _ => .no
@[simp] theorem esc_shr {u : U} {su : US} : escV (u, .shr) su = .ok u su := rfl
@[simp] theorem esc_tmp {u : U} {su : US} : escV (u, .tmp) su = .ok u su := rfl
@[simp] theorem esc_bor {u : U} {su : US} : escV (u, .bor) su = if imm u = true then .ok u su else .no := rfl
def kdOf (i : Nat) : Fl → Kd
  | .shr => .shr
  | .own | .io => .view i
  | .lent | .bor => .bor
def vLit (u : U) : VE := fun su => .ok (u, .shr) su
def vNo : VE := fun _ => .no
def vVar (i : Nat) : VE := fun su => match su[i]? with
  | some (some (u, f)) => .ok (u, kdOf i f) su
  | _ => .no
open Classical in
def vBin (f : U → U → VO) (a b : VE) : VE := fun su => (a su).bind fun p su1 => (b su1).bind fun q su2 => if pend p su2 then outV (f p.1 q.1) su2 else .no
def vNeg (a : VE) : VE := fun su => (a su).bind fun p su1 => match p.1 with
  | .int i => .ok (.int (-i), .shr) su1
  | _ => .no
def asBV (r : RG (U × Kd)) : RG Bool := r.bind fun p su => match p.1 with
  | .bl b => .ok b su
  | _ => .no
def vNotE (a : VE) : VE := fun su => (asBV (a su)).bind fun b su1 => .ok (.bl (!b), .shr) su1
def vAndE : List VE → VE
  | [] => vNo
  | [a] => a
  | a :: r => fun su => (asBV (a su)).bind fun b su1 => if b then vAndE r su1 else .ok (.bl false, .shr) su1
def vOrE : List VE → VE
  | [] => vNo
  | [a] => a
  | a :: r => fun su => (asBV (a su)).bind fun b su1 => if b then .ok (.bl true, .shr) su1 else vOrE r su1
def tNoV : VT := fun _ => .no
def vAndT : List VT → VT
  | [] => tNoV
  | [a] => a
  | a :: r => fun su => (a su).bind fun b su1 => if b then vAndT r su1 else .ok false su1
def vOrT : List VT → VT
  | [] => tNoV
  | [a] => a
  | a :: r => fun su => (a su).bind fun b su1 => if b then .ok true su1 else vOrT r su1
def vNotT (a : VT) : VT := fun su => (a su).bind fun b su1 => .ok (!b) su1
def vB (a : VE) : VT := fun su => asBV (a su)
def vTru (a : VE) : VT := fun su => (a su).bind fun p su1 => match truU p.1 with
  | some b => .ok b su1
  | none => .no
def vYes : VT := fun su => .ok true su
def vIf (t : VT) (a b : VE) : VE := fun su => (t su).bind fun k su1 => if k then a su1 else b su1
open Classical in
def vChain (f g : U → U → VO) (a b c : VE) : VE := fun su => (a su).bind fun p su1 => (b su1).bind fun q su2 => if pend p su2 then (asBV (outV (f p.1 q.1) su2)).bind fun k su3 => if k then (c su3).bind fun r su4 => if pend q su4 then outV (g q.1 r.1) su4 else .no else .ok (.bl false, .shr) su3 else .no
open Classical in
/-- read, nothing kept -/
def vArgs : List VE → VA
  | [] => fun su => .ok [] su
  | a :: r => fun su => (a su).bind fun p su1 => (vArgs r su1).bind fun us su2 => if pend p su2 then .ok (p.1 :: us) su2 else .no
/-- read, to be kept -/
def vEsc : List VE → VA
  | [] => fun su => .ok [] su
  | a :: r => fun su => (a su).bind fun p su1 => (escV p su1).bind fun u su2 => (vEsc r su2).bind fun us su3 => .ok (u :: us) su3
def vTup (l : List VE) : VE := fun su => (vEsc l su).bind fun us su1 => if us.length ≤ 16777216 then .ok (.tup us, .shr) su1 else .no
def vDict0 : VE := fun su => .ok (.edi, .shr) su
def vLenSet (a : VE) : VE := fun su => (a su).bind fun p su1 => match p.1 with
  | .tup us => match intsU us with
    | some ns => if ns.length ≤ 1000 then .ok (.int ((ddL ns).length : Nat), .shr) su1 else .no
    | none => .no
  | _ => .no
def vLst (l : List VE) : VE := fun su => (vEsc l su).bind fun us su1 => if us.length ≤ 16777216 then .ok (.lst us, .tmp) su1 else .no
abbrev VP := US → RG (Option Int)
def vPart (a : VE) : VP := fun su => (a su).bind fun p su1 => match p.1 with
  | .int i => .ok (some i) su1
  | _ => .no
def vNone : VP := fun su => .ok none su
open Classical in
def vSl (a : VE) (lo hi : VP) : VE := fun su => (a su).bind fun p su1 => (lo su1).bind fun l su2 => (hi su2).bind fun u su3 => if pend p su3 then outV (uSl p.1 l u) su3 else .no
def vRev (a : VE) : VE := fun su => (a su).bind fun p su1 => match p.1 with
  | .lst l => .ok (.lst l.reverse, .tmp) su1
  | .tup l => .ok (.tup l.reverse, .shr) su1
  | .str z => if z.length ≤ 16777216 then .ok (.str (revS z), .shr) su1 else .no
  | _ => .no
def vSortLen (a : VE) : VE := fun su => (a su).bind fun p su1 => match p.1 with
  | .lst l => match strsU l with
    | some ss => if ss.all (fun z => decide (z.length ≤ 16777216)) = true then .ok (.lst ((ss.mergeSort lenLe).map .str), .tmp) su1 else .no
    | none => .no
  | _ => .no
def vTupIx (us : List U) (a : VE) : VE := fun su => (a su).bind fun p su1 => outV (if flatU p.1 && us.all flatU then valO ((idxFU p.1 us).map fun k => .int (k : Nat)) else .no) su1
def vBlt (b : Blt) (l : List VE) : VE := fun su => (vArgs l su).bind fun us su1 => outV (bltU b us) su1
open Classical in
def vMeth (nm : Str) (o : VE) (l : List VE) : VE := fun su => (o su).bind fun p su1 => match mthOfU nm p.1 with
  | some m => (vArgs l su1).bind fun us su2 => if pend p su2 then outV (mthU m p.1 us) su2 else .no
  | none => .no
def rgArgU : List U → Option (Int × Int)
  | [.int j] => some (0, j)
  | [.int i, .int j] => some (i, j)
  | _ => none
def rgU (u v : Int) : List U := (List.range (v - u).toNat).map fun i => U.int (u + (i : Nat))
def vLstRg (l : List VE) : VE := fun su => (vArgs l su).bind fun us su1 => match rgArgU us with
  | some p => if rgOk p.1 p.2 then .ok (.lst (rgU p.1 p.2), .tmp) su1 else .no
  | none => .no
def vTupRg (l : List VE) : VE := fun su => (vArgs l su).bind fun us su1 => match rgArgU us with
  | some p => if rgOk p.1 p.2 then .ok (.tup (rgU p.1 p.2), .shr) su1 else .no
  | none => .no
section
variable {F : Fm} {h h1 h2 : DH} {s : DS} {su su1 su2 : US} {d : D} {u : U}
theorem esc_ok {p : U × Kd} {l : Nat} (e : ER F h s su) (r : KR F l h s su d p.1 p.2) : OkG rU F h s su (.ok d h) (escV p su) := by
  obtain ⟨u, k⟩ := p
  cases k with
  | shr => exact .pure e r
  | tmp =>
    obtain ⟨n, us, rfl, rfl, _, hb, hp, e2, ds, e1, r⟩ := r
    refine .pure e (.lst (fun z => ?_) e1 (r.less fun m => xx_add))
    rcases z with z | z | z
    · exact hp z
    · have := e.wb n z; omega
    · exact e2.notOw z
  | bor =>
    rw [esc_bor]
    split
    · rename_i q; exact .pure e (imm_tr q (KR.tr e r))
    · trivial
  | view i =>
    obtain ⟨a, b⟩ := r
    unfold escV
    dsimp only
    split
    · rename_i v q
      have : v = u := by rcases b with b | b <;> (rw [q] at b; cases b; try rfl)
      subst this
      obtain ⟨e1, g, r⟩ := e.esc a q
      exact ⟨d, h, rfl, g, e1, r⟩
    · trivial
theorem out_ok {r : Res D} {v : VO} (e : ER F h s su) (q : OkO (XX F s su) h r v) : OkG rK F h s su r (outV v su) := by
  cases v with
  | val u => obtain ⟨d, rfl, r⟩ := q; exact .pure e r
  | new us => obtain ⟨ds, rfl, r⟩ := q; exact ⟨_, _, rfl, Go.app, e.app, KR.new e (Nat.le_refl _) r⟩
  | no => trivial
theorem KR.laterT {l : Nat} {p : U × Kd} (e1 : ER F h1 s su1) (r : KR F l h1 s su1 d p.1 p.2) (g : Go F h1 s su1 h2 s su2) (e2 : ER F h2 s su2) (q : pend p su2) : TR (XX F s su2) h2 d p.1 :=
  (KR.later e1 r g e2 q).elim (fun z => KR.tr e2 z) id
theorem sim_lit {d : D} (q : ∀ X h, URel X h d u) : Sim rK (mLit d) (vLit u) := fun F h s su e => .pure e (q _ _)
theorem sim_no {m : ME} : Sim rK m vNo := fun F h s su e => trivial
theorem sim_var {i : Nat} : Sim rK (mVar i) (vVar i) := fun F h s su e => by
  unfold vVar
  split
  · rename_i u f q
    obtain ⟨d, a, r⟩ := e.slot i u f q
    have : mVar i s h = .ok d h := by unfold mVar; rw [a]
    rw [this]
    refine .pure e ?_
    show KR F _ h s su d u (kdOf i f)
    cases f with
    | own => exact ⟨a, .inl q⟩
    | io => exact ⟨a, .inr q⟩
    | shr => exact r
    | lent =>
      obtain ⟨n, us, rfl, rfl, hb, hp, r⟩ := r
      refine .inr ⟨n, us, rfl, rfl, fun z => ?_, fun ⟨j, v, a', b'⟩ => ?_, r⟩
      · have := e.wb n z; omega
      · have := e.inj i j n ⟨a, _, .inr q⟩ ⟨a', v, .inl b'⟩
        subst this
        rw [q] at b'; cases b'
    | bor =>
      rcases r with r | ⟨n, us, rfl, rfl, hb, hw, r⟩
      · exact .inl r
      · refine .inr ⟨n, us, rfl, rfl, hw, fun ⟨j, v, a', b'⟩ => ?_, r⟩
        obtain ⟨d', a2, n', us', c, _, hb', _⟩ := e.slot j v _ b'
        rw [a'] at a2; cases a2; cases c
        omega
  · trivial
theorem sim_bin {f : D → D → DH → Res D} {v : U → U → VO} {a b : ME} {va vb : VE} (o : OSim2 f v) (ha : Sim rK a va) (hb : Sim rK b vb) : Sim rK (mBin f a b) (vBin v va vb) := fun F h s su e =>
  (ha F h s su e).bind fun x p h1 su1 g1 e1 r1 => (hb F h1 s su1 e1).bind fun y q h2 su2 g2 e2 r2 => by
    split
    · rename_i z
      exact out_ok e2 (o _ _ _ _ _ _ (KR.laterT e1 r1 g2 e2 z) (KR.tr e2 r2))
    · trivial
theorem sim_neg {a : ME} {va : VE} (ha : Sim rK a va) : Sim rK (mNeg a) (vNeg va) := fun F h s su e =>
  (ha F h s su e).bind fun x p h1 su1 g1 e1 r1 => by
    have t := KR.tr e1 r1
    obtain ⟨u, k⟩ := p
    cases u with
    | int i =>
      have z := t.int; subst z
      exact .pure e1 (.int _)
    | _ => trivial
theorem asB_ok {r : Res D} {v : RG (U × Kd)} (q : OkG rK F h s su r v) : OkG (rEq Bool) F h s su (asB r) (asBV v) :=
  q.bind fun x p h1 su1 g1 e1 r1 => by
    have t := KR.tr e1 r1
    obtain ⟨u, k⟩ := p
    cases u with
    | bl i =>
      have z := t.bl; subst z
      exact .pure e1 rfl
    | _ => trivial
theorem sim_notE {a : ME} {va : VE} (ha : Sim rK a va) : Sim rK (mNotE a) (vNotE va) := fun F h s su e =>
  (asB_ok (ha F h s su e)).bind fun x p h1 su1 g1 e1 r1 => by cases r1; exact .pure e1 (.bl _)
inductive SimL {α β : Type} (rel : VRel α β) : List (DS → DH → Res α) → List (US → RG β) → Prop
  | nil : SimL rel [] []
  | cons {a : DS → DH → Res α} {v : US → RG β} {l : List (DS → DH → Res α)} {w : List (US → RG β)} : Sim rel a v → SimL rel l w → SimL rel (a :: l) (v :: w)
theorem sim_andE : ∀ {l : List ME} {w : List VE}, SimL rK l w → Sim rK (mAndE l) (vAndE w)
  | _, _, .nil => fun F h s su e => trivial
  | _, _, .cons a .nil => a
  | _, _, .cons a (.cons b r) => fun F h s su e => (asB_ok (a F h s su e)).bind fun x p h1 su1 g1 e1 r1 => by
    cases r1
    split
    · exact sim_andE (.cons b r) F h1 s su1 e1
    · exact .pure e1 (.bl _)
theorem sim_orE : ∀ {l : List ME} {w : List VE}, SimL rK l w → Sim rK (mOrE l) (vOrE w)
  | _, _, .nil => fun F h s su e => trivial
  | _, _, .cons a .nil => a
  | _, _, .cons a (.cons b r) => fun F h s su e => (asB_ok (a F h s su e)).bind fun x p h1 su1 g1 e1 r1 => by
    cases r1
    split
    · exact .pure e1 (.bl _)
    · exact sim_orE (.cons b r) F h1 s su1 e1
theorem sim_andT : ∀ {l : List MT} {w : List VT}, SimL (rEq Bool) l w → Sim (rEq Bool) (mAndT l) (vAndT w)
  | _, _, .nil => fun F h s su e => trivial
  | _, _, .cons a .nil => a
  | _, _, .cons a (.cons b r) => fun F h s su e => (a F h s su e).bind fun x p h1 su1 g1 e1 r1 => by
    cases r1
    split
    · exact sim_andT (.cons b r) F h1 s su1 e1
    · exact .pure e1 rfl
theorem sim_orT : ∀ {l : List MT} {w : List VT}, SimL (rEq Bool) l w → Sim (rEq Bool) (mOrT l) (vOrT w)
  | _, _, .nil => fun F h s su e => trivial
  | _, _, .cons a .nil => a
  | _, _, .cons a (.cons b r) => fun F h s su e => (a F h s su e).bind fun x p h1 su1 g1 e1 r1 => by
    cases r1
    split
    · exact .pure e1 rfl
    · exact sim_orT (.cons b r) F h1 s su1 e1
theorem sim_notT {a : MT} {v : VT} (ha : Sim (rEq Bool) a v) : Sim (rEq Bool) (mNotT a) (vNotT v) := fun F h s su e =>
  (ha F h s su e).bind fun x p h1 su1 g1 e1 r1 => by cases r1; exact .pure e1 rfl
theorem sim_B {a : ME} {v : VE} (ha : Sim rK a v) : Sim (rEq Bool) (mB a) (vB v) := fun F h s su e => asB_ok (ha F h s su e)
theorem sim_tru {a : ME} {v : VE} (ha : Sim rK a v) : Sim (rEq Bool) (mTru a) (vTru v) := fun F h s su e =>
  (ha F h s su e).bind fun x p h1 su1 g1 e1 r1 => by
    have t := KR.tr e1 r1
    cases q : truU p.1 with
    | some b =>
      rw [tru_tr t q]
      exact .pure e1 rfl
    | none => trivial
theorem sim_yes : Sim (rEq Bool) tYesM vYes := fun F h s su e => .pure e rfl
theorem sim_if {t : MT} {a b : ME} {vt : VT} {va vb : VE} (ht : Sim (rEq Bool) t vt) (ha : Sim rK a va) (hb : Sim rK b vb) : Sim rK (mIf t a b) (vIf vt va vb) := fun F h s su e =>
  (ht F h s su e).bind fun x p h1 su1 g1 e1 r1 => by
    cases r1
    split
    · exact ha F h1 s su1 e1
    · exact hb F h1 s su1 e1
theorem sim_chain {f g : D → D → DH → Res D} {v w : U → U → VO} {a b c : ME} {va vb vc : VE} (o : OSim2 f v) (o' : OSim2 g w) (ha : Sim rK a va) (hb : Sim rK b vb) (hc : Sim rK c vc) : Sim rK (mChain f g a b c) (vChain v w va vb vc) := fun F h s su e =>
  (ha F h s su e).bind fun x p h1 su1 g1 e1 r1 => (hb F h1 s su1 e1).bind fun y q h2 su2 g2 e2 r2 => by
    split
    · rename_i z
      refine (asB_ok (out_ok e2 (o _ _ _ _ _ _ (KR.laterT e1 r1 g2 e2 z) (KR.tr e2 r2)))).bind fun k k' h3 su3 g3 e3 r3 => ?_
      cases r3
      split
      · refine (hc F h3 s su3 e3).bind fun zz r h4 su4 g4 e4 r4 => ?_
        split
        · rename_i z
          exact out_ok e4 (o' _ _ _ _ _ _ (KR.laterT e2 r2 (g3.trans g4) e4 z) (KR.tr e4 r4))
        · trivial
      · exact .pure e3 (.bl _)
    · trivial
theorem sim_args : ∀ {l : List ME} {w : List VE}, SimL rK l w → Sim rTs (mArgs l) (vArgs w)
  | _, _, .nil => fun F h s su e => .pure e .nil
  | _, _, .cons a r => fun F h s su e => (a F h s su e).bind fun x p h1 su1 g1 e1 r1 => (sim_args r F h1 s su1 e1).bind fun y q h2 su2 g2 e2 r2 => by
    split
    · rename_i z
      exact .pure e2 (.cons (KR.laterT e1 r1 g2 e2 z) r2)
    · trivial
theorem sim_esc : ∀ {l : List ME} {w : List VE}, SimL rK l w → Sim rUs (mArgs l) (vEsc w)
  | _, _, .nil => fun F h s su e => .pure e .nil
  | _, _, .cons (a := a) q r => fun F h s su e => (q F h s su e).bind fun x p h1 su1 g1 e1 r1 => by
    have q2 := esc_ok e1 r1
    cases z : escV p su1 with
    | ok u su2 =>
      rw [z] at q2
      obtain ⟨d, h', e, g2, e2, r2⟩ := q2
      cases e
      exact OkG.go g2 ((sim_esc r F h1 s su2 e2).bind fun y q h3 su3 g3 e3 r3 => .pure e3 (.cons (g3.rel r2) r3))
    | exc x su2 => rw [z] at q2; obtain ⟨_, _, e, _⟩ := q2; cases e
    | no => trivial
theorem sim_tup {l : List ME} {w : List VE} (q : SimL rK l w) : Sim rK (mTup l) (vTup w) := fun F h s su e =>
  (sim_esc q F h s su e).bind fun x p h1 su1 g1 e1 r1 => by
    rw [URels.length r1]
    split
    · exact .pure e1 (.tup r1)
    · trivial
theorem sim_lst {l : List ME} {w : List VE} (q : SimL rK l w) : Sim rK (mLst l) (vLst w) := fun F h s su e =>
  (sim_esc q F h s su e).bind fun x p h1 su1 g1 e1 r1 => by
    rw [URels.length r1]
    split
    · exact ⟨_, _, rfl, Go.app, e1.app, KR.new e1 (Nat.le_refl _) r1⟩
    · trivial
theorem sim_part {a : ME} {v : VE} (ha : Sim rK a v) : Sim (rEq (Option Int)) (mPart a) (vPart v) := fun F h s su e =>
  (ha F h s su e).bind fun x p h1 su1 g1 e1 r1 => by
    have t := KR.tr e1 r1
    obtain ⟨u, k⟩ := p
    cases u with
    | int i =>
      have z := t.int; subst z
      exact .pure e1 rfl
    | _ => trivial
theorem sim_none : Sim (rEq (Option Int)) oNone vNone := fun F h s su e => .pure e rfl
theorem sim_sl {a : ME} {lo hi : MO} {v : VE} {l u : VP} (ha : Sim rK a v) (hl : Sim (rEq (Option Int)) lo l) (hu : Sim (rEq (Option Int)) hi u) : Sim rK (mSl a lo hi) (vSl v l u) := fun F h s su e =>
  (ha F h s su e).bind fun x p h1 su1 g1 e1 r1 => (hl F h1 s su1 e1).bind fun y q h2 su2 g2 e2 r2 => (hu F h2 s su2 e2).bind fun y' q' h3 su3 g3 e3 r3 => by
    cases r2; cases r3
    split
    · rename_i z
      exact out_ok e3 (osim_Sl (KR.laterT e1 r1 (g2.trans g3) e3 z))
    · trivial
theorem sim_rev {a : ME} {v : VE} (ha : Sim rK a v) : Sim rK (mRev a) (vRev v) := fun F h s su e =>
  (ha F h s su e).bind fun x p h1 su1 g1 e1 r1 => by
    have t := KR.tr e1 r1
    obtain ⟨u, k⟩ := p
    cases u with
    | lst l =>
      obtain ⟨n, ds, rfl, a, r⟩ := lst_list t
      dsimp only
      rw [a]
      exact ⟨_, _, rfl, Go.app, e1.app, KR.new e1 (Nat.le_refl _) r.rev⟩
    | tup l =>
      obtain ⟨ds, rfl, r⟩ := t.tup
      exact ⟨_, _, rfl, Go.refl, e1, .tup r.rev⟩
    | str z =>
      have q := t.str
      subst q
      dsimp only
      split
      · exact ⟨_, _, rfl, Go.refl, e1, .str _⟩
      · trivial
    | _ => trivial
theorem sim_sortLen {a : ME} {v : VE} (ha : Sim rK a v) : Sim rK (mSortLen a) (vSortLen v) := fun F h s su e =>
  (ha F h s su e).bind fun x p h1 su1 g1 e1 r1 => by
    have t := KR.tr e1 r1
    obtain ⟨u, k⟩ := p
    cases u with
    | lst l =>
      obtain ⟨n, ds, rfl, a, r⟩ := lst_list t
      dsimp only
      rw [a, Option.bind_some, strsOf_urel r]
      cases strsU l with
      | none => trivial
      | some ss =>
        dsimp only
        split
        · exact ⟨_, _, rfl, Go.app, e1.app, KR.new e1 (Nat.le_refl _) (strs_urel _)⟩
        · trivial
    | _ => trivial
theorem xx_lt {F : Fm} {h : DH} {s : DS} {su : US} (e : ER F h s su) {m : Nat} (q : XX F s su m) : m < h.length := by
  rcases q with q | q | ⟨i, a, u, b⟩
  · exact e.pb m q
  · have := e.wb m q
    have := e.bl
    omega
  · rcases b with b | b <;>
    · obtain ⟨d', a', n', us, c1, _, _, _, ds, c5, _⟩ := e.slot i u _ b
      rw [a] at a'; cases a'; cases c1
      exact lt_of_get c5
theorem sim_dict0 : Sim rK mDict0 vDict0 := fun F h s su e =>
  ⟨_, _, rfl, Go.app, e.app, .edi (fun z => by have := xx_lt e z; omega) (by simp)⟩
theorem sim_lenSet {a : ME} {v : VE} (ha : Sim rK a v) : Sim rK (mLenSet a) (vLenSet v) := fun F h s su e =>
  (ha F h s su e).bind fun x p h1 su1 g1 e1 r1 => by
    have t := KR.tr e1 r1
    obtain ⟨u, k⟩ := p
    cases u with
    | tup l =>
      obtain ⟨ds, rfl, r⟩ := t.tup
      dsimp only
      rw [intsOf_urel r]
      cases intsU l with
      | none => trivial
      | some ns =>
        dsimp only
        split
        · exact ⟨_, _, rfl, Go.refl, e1, .int _⟩
        · trivial
    | _ => trivial
theorem sim_tupIx {ds : List D} {us : List U} {a : ME} {v : VE} (r : ∀ X h, URels X h ds us) (ha : Sim rK a v) : Sim rK (mTupIx ds a) (vTupIx us v) := fun F h s su e =>
  (ha F h s su e).bind fun x p h1 su1 g1 e1 r1 => by
    have t := KR.tr e1 r1
    refine out_ok e1 ?_
    have rr := r (XX F s su1) h1
    rw [flat_tr t, flats_rel rr, idxF_rel t rr]
    refine okIf fun _ => ?_
    exact retD_val fun u eu => by obtain ⟨i, e1, rfl⟩ := map_inv eu; rw [e1]; exact ⟨_, rfl, .int _⟩
theorem sim_blt {b : Blt} {l : List ME} {w : List VE} (q : SimL rK l w) : Sim rK (mBlt b l) (vBlt b w) := fun F h s su e =>
  (sim_args q F h s su e).bind fun x p h1 su1 g1 e1 r1 => out_ok e1 (osim_Blt b _ _ _ _ r1)
theorem sim_meth {nm : Str} {o : ME} {l : List ME} {v : VE} {w : List VE} (ho : Sim rK o v) (q : SimL rK l w) : Sim rK (mMeth nm o l) (vMeth nm v w) := fun F h s su e =>
  (ho F h s su e).bind fun x p h1 su1 g1 e1 r1 => by
    cases z : mthOfU nm p.1 with
    | some m =>
      rw [mthOf_tr (KR.tr e1 r1) z]
      refine (sim_args q F h1 s su1 e1).bind fun y us h2 su2 g2 e2 r2 => ?_
      split
      · rename_i z
        exact out_ok e2 (osim_M m (KR.laterT e1 r1 g2 e2 z) r2)
      · trivial
    | none => trivial
theorem rg_urel {X : Nat → Prop} (a b : Int) : URels X h (rgD a b) (rgU a b) := by
  unfold rgD rgU
  induction List.range (b - a).toNat with
  | nil => exact .nil
  | cons x r ih => exact .cons (.int _) ih
theorem rgArg_tr {X : Nat → Prop} {ds : List D} {us : List U} {p : Int × Int} (r : TRs X h ds us) (q : rgArgU us = some p) : rgArg ds = some p := by
  unfold rgArgU at q
  split at q
  · obtain ⟨d, rfl, r1⟩ := trs1 r; have a := r1.int; subst a; exact q
  · obtain ⟨d, e, rfl, r1, r2⟩ := trs2 r; have a := r1.int; have b := r2.int; subst a; subst b; exact q
  · cases q
theorem sim_lstRg {l : List ME} {w : List VE} (q : SimL rK l w) : Sim rK (mLstRg l) (vLstRg w) := fun F h s su e =>
  (sim_args q F h s su e).bind fun x p h1 su1 g1 e1 r1 => by
    cases z : rgArgU p with
    | some p =>
      rw [rgArg_tr r1 z]
      dsimp only
      split
      · exact ⟨_, _, rfl, Go.app, e1.app, KR.new e1 (Nat.le_refl _) (rg_urel _ _)⟩
      · trivial
    | none => trivial
theorem sim_tupRg {l : List ME} {w : List VE} (q : SimL rK l w) : Sim rK (mTupRg l) (vTupRg w) := fun F h s su e =>
  (sim_args q F h s su e).bind fun x p h1 su1 g1 e1 r1 => by
    cases z : rgArgU p with
    | some p =>
      rw [rgArg_tr r1 z]
      dsimp only
      split
      · exact .pure e1 (.tup (rg_urel _ _))
      · trivial
    | none => trivial
end
end
end PyI
-- PvD
/-! PvD: statements on values -/
namespace PyI
noncomputable section
open PySem PySem.Spec L2
inductive SV where
  | nx (su : US) | rt (u : U) (fr : Bool) (su : US) | bk (su : US) | ct (su : US) | ex (x : XU) (su : US) | no
def RR (F : Fm) (h : DH) (s : DS) (su : US) (d : D) (u : U) : Bool → Prop
  | true => ∃ n us, d = .ref n ∧ u = .lst us ∧ F.b ≤ n ∧ ¬ F.P n ∧ LR (fun m => F.P m ∨ F.w m ∨ m = n) h n us ∧ ∀ (i : Nat) (us' : List U) (n0 : Nat), s[i]? = some (some (D.ref n0)) → su[i]? = some (some (.lst us', Fl.io)) → LR (fun m => F.P m ∨ F.w m ∨ m = n) h n0 us'
  | false => URel (XX F s su) h d u
def OkS (F : Fm) (h0 : DH) (s0 : DS) (su0 : US) (r : SR) : SV → Prop
  | .nx su => ∃ s h, r = .nx s h ∧ Go F h0 s0 su0 h s su ∧ ER F h s su
  | .bk su => ∃ s h, r = .bk s h ∧ Go F h0 s0 su0 h s su ∧ ER F h s su
  | .ct su => ∃ s h, r = .ct s h ∧ Go F h0 s0 su0 h s su ∧ ER F h s su
  | .rt u fr su => ∃ d s h, r = .rt d h ∧ Go F h0 s0 su0 h s su ∧ ER F h s su ∧ RR F h s su d u fr
  | .ex x su => ∃ e s h, r = .ex e s h ∧ Go F h0 s0 su0 h s su ∧ ER F h s su ∧ XR (XX F s su) h e x
  | .no => True
abbrev VS := US → SV
def SimS (m : MS) (v : VS) : Prop := ∀ (F : Fm) (h : DH) (s : DS) (su : US), ER F h s su → OkS F h s su (m s h) (v su)
abbrev VG := U → US → Option US
def SimG (g : MG) (v : VG) : Prop := ∀ (F : Fm) (h : DH) (s : DS) (su : US) (d : D) (u : U), ER F h s su → URel (XX F s su) h d u → ∀ su', v u su = some su' → ∃ s' h', g d s h = some (s', h') ∧ Go F h s su h' s' su' ∧ ER F h' s' su'
def bindV {β : Type} (r : RG β) (f : β → US → SV) : SV := match r with
  | .ok b su => f b su
  | .exc x su => .ex x su
  | .no => .no
@[simp] theorem bv_ok {β : Type} (b : β) (su : US) (f : β → US → SV) : bindV (.ok b su) f = f b su := rfl
@[simp] theorem bv_exc {β : Type} (x : XU) (su : US) (f : β → US → SV) : bindV (.exc x su) f = .ex x su := rfl
@[simp] theorem bv_no {β : Type} (f : β → US → SV) : bindV .no f = .no := rfl
section
variable {F : Fm} {h h1 h2 : DH} {s s1 s2 : DS} {su su1 su2 : US} {d : D} {u : U} {α β : Type} {rel : VRel α β}
theorem OkS.go {r : SR} {v : SV} (g : Go F h s su h1 s1 su1) (q : OkS F h1 s1 su1 r v) : OkS F h s su r v := by
  cases v with
  | nx su2 => obtain ⟨s2, h2, e, g2, er⟩ := q; exact ⟨s2, h2, e, g.trans g2, er⟩
  | bk su2 => obtain ⟨s2, h2, e, g2, er⟩ := q; exact ⟨s2, h2, e, g.trans g2, er⟩
  | ct su2 => obtain ⟨s2, h2, e, g2, er⟩ := q; exact ⟨s2, h2, e, g.trans g2, er⟩
  | rt u fr su2 => obtain ⟨d, s2, h2, e, g2, er⟩ := q; exact ⟨d, s2, h2, e, g.trans g2, er⟩
  | ex x su2 => obtain ⟨d, s2, h2, e, g2, er⟩ := q; exact ⟨d, s2, h2, e, g.trans g2, er⟩
  | no => trivial
theorem OkS.bind {r : Res α} {v : RG β} {f : α → DH → SR} {k : β → US → SV} (q : OkG rel F h s su r v)
    (c : ∀ a b h1 su1, Go F h s su h1 s su1 → ER F h1 s su1 → rel F h.length h1 s su1 a b → OkS F h1 s su1 (f a h1) (k b su1)) : OkS F h s su (bindS r s f) (bindV v k) := by
  cases v with
  | ok b su1 =>
    obtain ⟨a, h1, rfl, g, e, q⟩ := q
    exact OkS.go g (c a b h1 su1 g e q)
  | exc x su1 =>
    obtain ⟨a, h1, rfl, g, e, q⟩ := q
    exact ⟨a, s, h1, rfl, g, e, q⟩
  | no => trivial
theorem OkS.nxt (e : ER F h s su) : OkS F h s su (.nx s h) (.nx su) := ⟨s, h, rfl, Go.refl, e⟩
end
def vSeq (a b : VS) : VS := fun su => match a su with
  | .nx su1 => b su1
  | r => r
def vNext : VS := fun su => .nx su
def vStNo : VS := fun _ => .no
def vBrk : VS := fun su => .bk su
def vCnt : VS := fun su => .ct su
def stV (i : Nat) (p : U × Kd) (su : US) : SV := match p.2 with
  | .tmp => .nx (su.set i (some (p.1, .own)))
  | _ => bindV (escV p su) fun u su1 => .nx (su1.set i (some (u, .shr)))
@[simp] theorem st_tmp {i : Nat} {u : U} {su : US} : stV i (u, .tmp) su = .nx (su.set i (some (u, .own))) := rfl
@[simp] theorem st_shr {i : Nat} {u : U} {su : US} : stV i (u, .shr) su = .nx (su.set i (some (u, .shr))) := rfl
@[simp] theorem st_bor {i : Nat} {u : U} {su : US} : stV i (u, .bor) su = bindV (escV (u, .bor) su) fun u su1 => .nx (su1.set i (some (u, .shr))) := rfl
@[simp] theorem st_view {i j : Nat} {u : U} {su : US} : stV i (u, .view j) su = bindV (escV (u, .view j) su) fun u su1 => .nx (su1.set i (some (u, .shr))) := rfl
def vAsg (a : VE) (i : Nat) : VS := fun su => bindV (a su) fun p su1 => stV i p su1
def vDrop (a : VE) : VS := fun su => bindV (a su) fun _ su1 => .nx su1
def vRet (a : VE) : VS := fun su => bindV (a su) fun p su1 => match p.2 with
  | .tmp => .rt p.1 true su1
  | .view i => match su1[i]? with
    | some (some (u, .own)) => .rt u true su1
    | _ => .no
  | _ => bindV (escV p su1) fun u su2 => .rt u false su2
def vRetN : VS := fun su => .rt .non false su
def vIfS (t : VT) (a b : VS) : VS := fun su => bindV (t su) fun k su1 => if k then a su1 else b su1
open Classical in
def vAug (i : Nat) (f : U → U → VO) (a : VE) : VS := fun su => match su[i]? with
  | some (some (x, fl)) => bindV (a su) fun q su1 => if pend (x, kdOf i fl) su1 then match f x q.1 with
    | .val z => .nx (su1.set i (some (z, .shr)))
    | _ => .no else .no
  | _ => .no
def vgNm (i : Nat) : VG := fun u su => some (su.set i (some (u, .shr)))
def vgs : List VG → List U → US → Option US
  | [], [], su => some su
  | g :: r, u :: us, su => (g u su).bind fun su1 => vgs r us su1
  | _, _, _ => none
def vgTp (l : List VG) : VG := fun u su => match u with
  | .tup us => if us.length = l.length then vgs l us su else none
  | .lst us => if us.length = l.length then vgs l us su else none
  | _ => none
def rgO {β : Type} : RG β → Option (β × US)
  | .ok b su => some (b, su)
  | _ => none
def chg (su : US) (i : Nat) (f : List U → Option (List U)) : Option US := match su[i]? with
  | some (some (.lst xs, .own)) => (f xs).map fun ys => su.set i (some (.lst ys, .own))
  | some (some (.lst xs, .io)) => (f xs).map fun ys => su.set i (some (.lst ys, .io))
  | _ => none
def vgSub (i : Nat) (b : VE) : VG := fun u su => (rgO (b su)).bind fun q => match q.1.1 with
  | .int k => chg q.2 i fun xs => (ixN xs.length k).map fun j => xs.set j u
  | _ => none
def vAsgG (a : VE) (g : VG) : VS := fun su => bindV (a su) fun p su1 => bindV (escV p su1) fun u su2 => match g u su2 with
  | some su3 => .nx su3
  | none => .no
def vAsg2 (a : VE) (g1 g2 : VG) : VS := fun su => bindV (a su) fun p su1 => bindV (escV p su1) fun u su2 => match (g1 u su2).bind (g2 u) with
  | some su3 => .nx su3
  | none => .no
/-- changing methods -/
def vApp (i : Nat) (a : VE) : VE := fun su => match su[i]? with
  | some (some (.lst _, _)) => (a su).bind fun p su1 => (escV p su1).bind fun u su2 => match chg su2 i fun xs => if xs.length < 16777216 then some (xs ++ [u]) else none with
    | some su3 => .ok (.non, .shr) su3
    | none => .no
  | _ => .no
def vExt (i : Nat) (a : VE) : VE := fun su => match su[i]? with
  | some (some (.lst _, _)) => (a su).bind fun p su1 => match p.1 with
    | .lst ys => match chg su1 i fun xs => if xs.length + ys.length ≤ 16777216 then some (xs ++ ys) else none with
      | some su3 => .ok (.non, .shr) su3
      | none => .no
    | _ => .no
  | _ => .no
def vPop (i : Nat) : VE := fun su => match su[i]? with
  | some (some (.lst xs, _)) => match xs[xs.length - 1]?, chg su i fun xs => some xs.dropLast with
    | some u, some su1 => .ok (u, .shr) su1
    | _, _ => .no
  | _ => .no
def popIx (k : Int) (n : Nat) : Option Nat := if -hid 9223372036854775808 ≤ k ∧ k < hid 9223372036854775808 then seqIndex? k n else none
def vPopI (i : Nat) (a : VE) : VE := fun su => match su[i]? with
  | some (some (.lst _, _)) => (a su).bind fun p su1 => match p.1, su1[i]? with
    | .int k, some (some (.lst xs, _)) => match (popIx k xs.length).bind fun j => xs[j]?, chg su1 i fun xs => (popIx k xs.length).map fun j => xs.eraseIdx j with
      | some u, some su2 => .ok (u, .shr) su2
      | _, _ => .no
    | _, _ => .no
  | _ => .no
section
variable {F : Fm} {h h1 h2 : DH} {s s1 s2 : DS} {su su1 su2 : US} {d : D} {u : U}
theorem sims_seq {a b : MS} {va vb : VS} (ha : SimS a va) (hb : SimS b vb) : SimS (mSeq a b) (vSeq va vb) := fun F h s su e => by
  have q := ha F h s su e
  unfold mSeq vSeq
  cases z : va su with
  | nx su1 => rw [z] at q; obtain ⟨s1, h1, e1, g, er⟩ := q; rw [e1]; exact OkS.go g (hb F h1 s1 su1 er)
  | bk su1 => rw [z] at q; obtain ⟨s1, h1, e1, g, er⟩ := q; rw [e1]; exact ⟨s1, h1, rfl, g, er⟩
  | ct su1 => rw [z] at q; obtain ⟨s1, h1, e1, g, er⟩ := q; rw [e1]; exact ⟨s1, h1, rfl, g, er⟩
  | rt u fr su1 => rw [z] at q; obtain ⟨d, s1, h1, e1, g, er⟩ := q; rw [e1]; exact ⟨d, s1, h1, rfl, g, er⟩
  | ex x su1 => rw [z] at q; obtain ⟨d, s1, h1, e1, g, er⟩ := q; rw [e1]; exact ⟨d, s1, h1, rfl, g, er⟩
  | no => trivial
theorem sims_next : SimS mNext vNext := fun F h s su e => .nxt e
theorem sims_no {m : MS} : SimS m vStNo := fun F h s su e => trivial
theorem sims_brk : SimS mBrk vBrk := fun F h s su e => ⟨s, h, rfl, Go.refl, e⟩
theorem sims_cnt : SimS mCnt vCnt := fun F h s su e => ⟨s, h, rfl, Go.refl, e⟩
theorem sims_retN : SimS mRetN vRetN := fun F h s su e => ⟨_, s, h, rfl, Go.refl, e, .non⟩
theorem sims_drop {a : ME} {va : VE} (ha : Sim rK a va) : SimS (mDrop a) (vDrop va) := fun F h s su e =>
  OkS.bind (ha F h s su e) fun x p h1 su1 g1 e1 r1 => .nxt e1
theorem sims_if {t : MT} {a b : MS} {vt : VT} {va vb : VS} (ht : Sim (rEq Bool) t vt) (ha : SimS a va) (hb : SimS b vb) : SimS (mIfS t a b) (vIfS vt va vb) := fun F h s su e =>
  OkS.bind (ht F h s su e) fun x p h1 su1 g1 e1 r1 => by
    cases r1
    cases x with
    | true => exact ha F h1 s su1 e1
    | false => exact hb F h1 s su1 e1
theorem esc_bind {p : U × Kd} {l : Nat} (e : ER F h s su) (r : KR F l h s su d p.1 p.2) {f : SR} {k : U → US → SV}
    (c : ∀ u su1, Go F h s su h s su1 → ER F h s su1 → URel (XX F s su1) h d u → OkS F h s su1 f (k u su1)) : OkS F h s su f (bindV (escV p su) k) := by
  have q := esc_ok e r
  cases z : escV p su with
  | ok u su1 =>
    rw [z] at q
    obtain ⟨d', h', e1, g, er, r⟩ := q
    cases e1
    exact OkS.go g (c u su1 g er r)
  | exc x su1 => rw [z] at q; obtain ⟨_, _, e1, _⟩ := q; cases e1
  | no => trivial
theorem st_ok {i : Nat} {p : U × Kd} {h0 : DH} {su0 : US} (g : Go F h0 s su0 h s su) (e : ER F h s su) (r : KR F h0.length h s su d p.1 p.2) : OkS F h0 s su0 (.nx (s.set i (some d)) h) (stV i p su) := by
  obtain ⟨u, k⟩ := p
  have gen : OkS F h0 s su0 (.nx (s.set i (some d)) h) (bindV (escV (u, k) su) fun u su1 => .nx (su1.set i (some (u, .shr)))) := OkS.go g (esc_bind e r fun u su1 g1 e1 r1 => by
    obtain ⟨e2, g2⟩ := e1.setShr (i := i) r1
    exact ⟨_, _, rfl, g2, e2⟩)
  cases k with
  | tmp =>
    obtain ⟨n, us, rfl, rfl, hl, hb, hp, e2, q⟩ := r
    obtain ⟨e3, g3⟩ := ER.setOwn (i := i) g hl hb hp e2 q
    exact ⟨_, _, rfl, g3, e3⟩
  | _ => exact gen
theorem sims_asg {a : ME} {va : VE} {i : Nat} (ha : Sim rK a va) : SimS (mAsg a (gNm i)) (vAsg va i) := fun F h s su e => by
  have q := ha F h s su e
  unfold mAsg vAsg
  cases z : va su with
  | ok p su1 =>
    rw [z] at q
    obtain ⟨d, h1, e1, g, er, r⟩ := q
    rw [e1]
    exact st_ok g er r
  | exc x su1 =>
    rw [z] at q
    obtain ⟨d, h1, e1, g, er, r⟩ := q
    rw [e1]
    exact ⟨d, s, h1, rfl, g, er, r⟩
  | no => trivial
theorem sims_ret {a : ME} {va : VE} (ha : Sim rK a va) : SimS (mRet a) (vRet va) := fun F h s su e =>
  OkS.bind (ha F h s su e) fun x p h1 su1 g1 e1 r1 => by
    obtain ⟨u, k⟩ := p
    cases k with
    | tmp =>
      obtain ⟨n, us, rfl, rfl, _, hb, hp, e2, q⟩ := r1
      have sub : ∀ m, (F.P m ∨ F.w m ∨ m = n) → XX (F.add n) s su1 m := fun m z => by
        rcases z with z | z | z
        · exact .inl (.inl z)
        · exact .inr (.inl z)
        · exact .inl (.inr z)
      refine ⟨_, s, h1, rfl, Go.refl, e1, n, us, rfl, rfl, hb, hp, q.less sub, fun j us' n0 a b => ?_⟩
      obtain ⟨d', a', n', us2, c, c2, _, r⟩ := e2.slot j _ _ b
      rw [a] at a'; cases a'; cases c; cases c2
      exact r.less sub
    | view i =>
      dsimp only
      split
      · rename_i v q
        obtain ⟨a, b⟩ := r1
        have : v = u := by rcases b with b | b <;> (rw [q] at b; cases b; try rfl)
        subst this
        obtain ⟨d', a', n, us, rfl, rfl, hb, hp, r⟩ := e1.slot i _ _ q
        rw [a] at a'; cases a'
        have sub : ∀ m, (F.P m ∨ F.w m ∨ m = n) → XX F s su1 m := fun m z => by
          rcases z with z | z | z
          · exact .inl z
          · exact .inr (.inl z)
          · subst z; exact .inr (.inr ⟨i, a, _, .inl q⟩)
        refine ⟨_, s, h1, rfl, Go.refl, e1, n, us, rfl, rfl, hb, hp, r.less sub, fun j us' n0 a b => ?_⟩
        obtain ⟨d', a', n', us2, c, c2, _, r⟩ := e1.slot j _ _ b
        rw [a] at a'; cases a'; cases c; cases c2
        exact r.less sub
      · trivial
    | shr => exact esc_bind e1 r1 fun u su2 g2 e2 r2 => ⟨_, s, h1, rfl, Go.refl, e2, r2⟩
    | bor => exact esc_bind e1 r1 fun u su2 g2 e2 r2 => ⟨_, s, h1, rfl, Go.refl, e2, r2⟩
theorem simg_nm {i : Nat} : SimG (gNm i) (vgNm i) := fun F h s su d u e r su' q => by
  cases q
  obtain ⟨e2, g2⟩ := e.setShr (i := i) r
  exact ⟨_, _, rfl, g2, e2⟩
inductive SimGs : List MG → List VG → Prop
  | nil : SimGs [] []
  | cons {g : MG} {v : VG} {l : List MG} {w : List VG} : SimG g v → SimGs l w → SimGs (g :: l) (v :: w)
theorem SimGs.length {l : List MG} {w : List VG} (q : SimGs l w) : l.length = w.length := by induction q <;> simp [*]
theorem simgs : ∀ {l : List MG} {w : List VG}, SimGs l w → ∀ {F : Fm} {h : DH} {s : DS} {su : US} {ds : List D} {us : List U} {su' : US}, ER F h s su → URels (XX F s su) h ds us → vgs w us su = some su' → ∃ s' h', gsM l ds s h = some (s', h') ∧ Go F h s su h' s' su' ∧ ER F h' s' su'
  | _, _, .nil, F, h, s, su, _, _, su', e, .nil, q => by cases q; exact ⟨s, h, rfl, Go.refl, e⟩
  | _, _, .nil, F, h, s, su, _, _, su', e, .cons _ _, q => by cases q
  | _, _, .cons _ _, F, h, s, su, _, _, su', e, .nil, q => by cases q
  | _, _, .cons a b, F, h, s, su, _, _, su', e, .cons r rs, q => by
    obtain ⟨su1, q1, q2⟩ := bind_inv (show ((_ : VG) _ su).bind _ = some su' from q)
    obtain ⟨s1, h1, e1, g1, er1⟩ := a F h s su _ _ e r su1 q1
    obtain ⟨s2, h2, e2, g2, er2⟩ := simgs b er1 (g1.rels rs) q2
    exact ⟨s2, h2, by show ((_ : MG) _ s h).bind _ = _; rw [e1]; exact e2, g1.trans g2, er2⟩
theorem simg_tp {l : List MG} {w : List VG} (a : SimGs l w) : SimG (gTp l) (vgTp w) := fun F h s su d u e r su' q => by
  unfold vgTp at q
  split at q
  · split at q
    · rename_i us hl
      cases r with
      | tup r =>
        obtain ⟨s', h', e1, g, er⟩ := simgs a e r q
        refine ⟨s', h', ?_, g, er⟩
        show (if _ then _ else _) = _
        rw [if_pos (by rw [r.length, a.length]; exact hl)]
        exact e1
    · cases q
  · split at q
    · rename_i us hl
      cases r with
      | lst nx e0 r =>
        obtain ⟨s', h', e1, g, er⟩ := simgs a e r q
        refine ⟨s', h', ?_, g, er⟩
        unfold gTp
        dsimp only
        rw [e0]
        dsimp only
        rw [if_pos (by rw [r.length, a.length]; exact hl)]
        exact e1
    · cases q
  · cases q
theorem chg_ok {i : Nat} {f : List U → Option (List U)} {su' : US} (e : ER F h s su) (q : chg su i f = some su') :
    ∃ n ds us fl us', s[i]? = some (some (D.ref n)) ∧ su[i]? = some (some (.lst us, fl)) ∧ h[n]? = some (.lst ds) ∧ URels (XX F s su) h ds us ∧ f us = some us' ∧
      ∀ ds', URels (XX F s su) h ds' us' → ER F (h.set n (.lst ds')) s su' ∧ Go F h s su (h.set n (.lst ds')) s su' := by
  unfold chg at q
  split at q
  · rename_i xs b
    obtain ⟨us', e1, rfl⟩ := map_inv q
    obtain ⟨d', a, n, us, rfl, c, _, _, ds, e2, r⟩ := e.slot i _ _ b
    cases c
    exact ⟨n, ds, xs, .own, us', a, b, e2, r, e1, fun ds' r' => e.mut (us := []) (.inl rfl) a b r'⟩
  · rename_i xs b
    obtain ⟨us', e1, rfl⟩ := map_inv q
    obtain ⟨d', a, n, us, rfl, c, _, ds, e2, r⟩ := e.slot i _ _ b
    cases c
    exact ⟨n, ds, xs, .io, us', a, b, e2, r, e1, fun ds' r' => e.mut (us := []) (.inr rfl) a b r'⟩
  · cases q
theorem var_eq {i n : Nat} (a : s[i]? = some (some (D.ref n))) : mVar i s h = .ok (.ref n) h := by unfold mVar; rw [a]
theorem simg_sub {i : Nat} {b : ME} {vb : VE} (hb : Sim rK b vb) : SimG (gSubM (mVar i) b) (vgSub i vb) := fun F h s su d u e r su' q => by
  obtain ⟨⟨⟨x, k⟩, su1⟩, q1, q2⟩ := bind_inv q
  dsimp only at q2
  have qb := hb F h s su e
  cases z : vb su with
  | ok p su2 =>
    rw [z] at q1 qb
    cases q1
    obtain ⟨y, h1, e1, g1, er1, r1⟩ := qb
    split at q2
    · rename_i k'
      have t := (KR.tr er1 r1).int
      subst t
      obtain ⟨n, ds, us, fl, us', a1, b1, e2, r2, e3, fin⟩ := chg_ok er1 q2
      obtain ⟨j, e4, rfl⟩ := map_inv e3
      obtain ⟨er2, g2⟩ := fin (ds.set j d) (r2.set (g1.rel r) j)
      refine ⟨s, _, ?_, g1.trans g2, er2⟩
      show ((okOf (mVar i s h)).bind fun p => (okOf (b s p.2)).bind fun q => (setIx q.2 p.1 q.1 d).map fun h3 => (s, h3)) = _
      rw [var_eq a1]
      show ((okOf (b s h)).bind fun q => (setIx q.2 (.ref n) q.1 d).map fun h3 => (s, h3)) = _
      rw [e1]
      show (setIx h1 (.ref n) (.int k') d).map _ = _
      unfold setIx
      dsimp only
      rw [e2]
      dsimp only
      rw [r2.length, e4]
      rfl
    · cases q2
  | exc x su2 => rw [z] at q1; cases q1
  | no => rw [z] at q1; cases q1
theorem sims_asgG {a : ME} {va : VE} {g : MG} {vg : VG} (ha : Sim rK a va) (hg : SimG g vg) : SimS (mAsg a g) (vAsgG va vg) := fun F h s su e =>
  OkS.bind (ha F h s su e) fun x p h1 su1 g1 e1 r1 => esc_bind e1 r1 fun u su2 g2 e2 r2 => by
    cases z : vg u su2 with
    | none => trivial
    | some su3 =>
      obtain ⟨s', h', e3, g3, er3⟩ := hg F h1 s su2 x u e2 r2 su3 z
      rw [e3]
      exact ⟨s', h', rfl, g3, er3⟩
theorem sims_asg2 {a : ME} {va : VE} {g g' : MG} {vg vg' : VG} (ha : Sim rK a va) (hg : SimG g vg) (hg' : SimG g' vg') : SimS (mAsg2 a g g') (vAsg2 va vg vg') := fun F h s su e =>
  OkS.bind (ha F h s su e) fun x p h1 su1 g1 e1 r1 => esc_bind e1 r1 fun u su2 g2 e2 r2 => by
    cases z : (vg u su2).bind (vg' u) with
    | none => trivial
    | some su3 =>
      obtain ⟨su4, z1, z2⟩ := bind_inv z
      obtain ⟨s', h', e3, g3, er3⟩ := hg F h1 s su2 x u e2 r2 su4 z1
      obtain ⟨s4, h4, e4, g4, er4⟩ := hg' F h' s' su4 x u er3 (g3.rel r2) su3 z2
      rw [e3]
      dsimp only
      rw [e4]
      exact ⟨s4, h4, rfl, g3.trans g4, er4⟩
theorem sims_aug {i : Nat} {f : D → D → DH → Res D} {v : U → U → VO} {a : ME} {va : VE} (o : OSim2 f v) (ha : Sim rK a va) : SimS (mAug i f a) (vAug i v va) := fun F h s su e => by
  cases q0 : su[i]? with
  | none => unfold vAug; rw [q0]; trivial
  | some o =>
  cases o with
  | none => unfold vAug; rw [q0]; trivial
  | some xf =>
    obtain ⟨x, fl⟩ := xf
    have q := q0
    unfold mAug vAug
    rw [q0]
    dsimp only
    obtain ⟨d, a1, r⟩ := e.slot i x fl q
    have kr : KR F h.length h s su d x (kdOf i fl) := by
      have q2 := sim_var (i := i) F h s su e
      unfold vVar at q2
      rw [q] at q2
      obtain ⟨d', h', e1, _, _, r⟩ := q2
      unfold mVar at e1
      rw [a1] at e1
      cases e1
      exact r
    rw [a1]
    refine OkS.bind (ha F h s su e) fun y p h1 su1 g1 e1 r1 => ?_
    split
    · rename_i z
      have t := o _ _ _ _ _ _ (KR.laterT (p := (x, kdOf i fl)) e kr g1 e1 z) (KR.tr e1 r1)
      cases zz : v x p.1 with
      | val w =>
        rw [zz] at t
        obtain ⟨d2, e2, r2⟩ := t
        rw [e2]
        obtain ⟨e3, g3⟩ := e1.setShr (i := i) r2
        exact ⟨_, _, rfl, g3, e3⟩
      | new _ => trivial
      | no => trivial
    · trivial
theorem mth_lst {nm : Str} {n : Nat} {ds : List D} (e : h[n]? = some (.lst ds)) : mthOf nm (.ref n) h = if nm = "append" then some .append else if nm = "pop" then some .pop else if nm = "extend" then some .extend else if nm = "index" then some .lindex else if nm = "count" then some .lcount else none := by
  unfold mthOf; dsimp only; rw [e]
theorem slot_lst {i : Nat} {us : List U} {f : Fl} (e : ER F h s su) (q : su[i]? = some (some (.lst us, f))) : ∃ n ds, s[i]? = some (some (D.ref n)) ∧ h[n]? = some (.lst ds) ∧ URels (XX F s su) h ds us := by
  obtain ⟨d, a, r⟩ := e.slot i _ f q
  have t : TR (XX F s su) h d (.lst us) := by
    cases f with
    | own => obtain ⟨n, us, a, b, _, _, r⟩ := r; exact .inr ⟨n, us, a, b, r⟩
    | lent => obtain ⟨n, us, a, b, _, _, r⟩ := r; exact .inr ⟨n, us, a, b, r⟩
    | io => obtain ⟨n, us, a, b, _, r⟩ := r; exact .inr ⟨n, us, a, b, r⟩
    | bor =>
      rcases r with r | ⟨n, us, a, b, _, _, r⟩
      · exact .inl r
      · exact .inr ⟨n, us, a, b, r⟩
    | shr => exact .inl r
  obtain ⟨n, ds, rfl, b, r⟩ := t.lst
  exact ⟨n, ds, a, b, r⟩
theorem esc_bindG {p : U × Kd} {l : Nat} {γ δ : Type} {rel2 : VRel γ δ} [MonoR rel2] (e : ER F h s su) (r : KR F l h s su d p.1 p.2) {f : Res γ} {k : U → US → RG δ}
    (c : ∀ u su1, Go F h s su h s su1 → ER F h s su1 → URel (XX F s su1) h d u → OkG rel2 F h s su1 f (k u su1)) : OkG rel2 F h s su f ((escV p su).bind k) := by
  have q := esc_ok e r
  cases z : escV p su with
  | ok u su1 =>
    rw [z] at q
    obtain ⟨d', h', e1, g, er, r⟩ := q
    cases e1
    exact OkG.go g (c u su1 g er r)
  | exc x su1 => rw [z] at q; obtain ⟨_, _, e1, _⟩ := q; cases e1
  | no => trivial
theorem margs1 {a : ME} : mArgs [a] s h = (a s h).bind fun x h1 => .ok [x] h1 := rfl
theorem sim_app {i : Nat} {a : ME} {va : VE} (ha : Sim rK a va) : Sim rK (mMeth "append" (mVar i) [a]) (vApp i va) := fun F h s su e => by
  unfold vApp
  split
  · rename_i us f q
    obtain ⟨n, ds, a1, b1, r⟩ := slot_lst e q
    have : mMeth "append" (mVar i) [a] s h = (a s h).bind fun x h1 => mthF .append (.ref n) [x] h1 := by
      show (mVar i s h).bind _ = _
      rw [var_eq a1]
      show (match mthOf "append" (.ref n) h with | some m => (mArgs [a] s h).bind fun xs h2 => mthF m (.ref n) xs h2 | none => .no) = _
      rw [mth_lst b1]
      show (mArgs [a] s h).bind _ = _
      rw [margs1]
      cases a s h <;> rfl
    rw [this]
    refine (ha F h s su e).bind fun x p h1 su1 g1 e1 r1 => esc_bindG e1 r1 fun u su2 g2 e2 r2 => ?_
    cases z : chg su2 i fun xs => if xs.length < 16777216 then some (xs ++ [u]) else none with
    | none => trivial
    | some su3 =>
      obtain ⟨n', ds2, us2, fl, us', a2, b2, c2, r3, e3, fin⟩ := chg_ok e2 z
      rw [a1] at a2; cases a2
      split at e3
      · rename_i hlt
        cases e3
        obtain ⟨e4, g4⟩ := fin (ds2 ++ [x]) (r3.append (.cons r2 .nil))
        refine ⟨.non, _, ?_, g4, e4, .non⟩
        unfold mthF
        dsimp only
        rw [c2]
        dsimp only
        rw [if_pos (by rw [r3.length]; exact hlt)]
        rfl
      · cases e3
  · trivial
theorem sim_ext {i : Nat} {a : ME} {va : VE} (ha : Sim rK a va) : Sim rK (mMeth "extend" (mVar i) [a]) (vExt i va) := fun F h s su e => by
  unfold vExt
  split
  · rename_i us f q
    obtain ⟨n, ds, a1, b1, r⟩ := slot_lst e q
    have : mMeth "extend" (mVar i) [a] s h = (a s h).bind fun x h1 => mthF .extend (.ref n) [x] h1 := by
      show (mVar i s h).bind _ = _
      rw [var_eq a1]
      show (match mthOf "extend" (.ref n) h with | some m => (mArgs [a] s h).bind fun xs h2 => mthF m (.ref n) xs h2 | none => .no) = _
      rw [mth_lst b1]
      show (mArgs [a] s h).bind _ = _
      rw [margs1]
      cases a s h <;> rfl
    rw [this]
    refine (ha F h s su e).bind fun x p h1 su1 g1 e1 r1 => ?_
    obtain ⟨u, k⟩ := p
    cases u with
    | lst ys =>
      dsimp only
      cases z : chg su1 i fun xs => if xs.length + ys.length ≤ 16777216 then some (xs ++ ys) else none with
      | none => trivial
      | some su3 =>
        obtain ⟨n', ds2, us2, fl, us', a2, b2, c2, r3, e3, fin⟩ := chg_ok e1 z
        rw [a1] at a2; cases a2
        obtain ⟨m, es, rfl, c3, r4⟩ := (KR.tr e1 r1).lst
        split at e3
        · rename_i hlt
          cases e3
          obtain ⟨e4, g4⟩ := fin (ds2 ++ es) (r3.append r4)
          refine ⟨.non, _, ?_, g4, e4, .non⟩
          unfold mthF
          dsimp only
          rw [c2, c3]
          dsimp only
          rw [if_pos (by rw [r3.length, r4.length]; exact hlt)]
          rfl
        · cases e3
    | _ => trivial
  · trivial
theorem sim_pop {i : Nat} : Sim rK (mMeth "pop" (mVar i) []) (vPop i) := fun F h s su e => by
  unfold vPop
  split
  · rename_i us f q
    split
    · rename_i u su1 q1 q2
      obtain ⟨n, ds, us2, fl, us', a2, b2, c2, r3, e3, fin⟩ := chg_ok e q2
      rw [q] at b2; cases b2
      cases e3
      obtain ⟨y, y1, y2⟩ := r3.get q1
      obtain ⟨e4, g4⟩ := fin ds.dropLast r3.dropLast
      refine ⟨y, _, ?_, g4, e4, g4.rel y2⟩
      show (mVar i s h).bind _ = _
      rw [var_eq a2]
      show (match mthOf "pop" (.ref n) h with | some m => (mArgs [] s h).bind fun xs h2 => mthF m (.ref n) xs h2 | none => .no) = _
      rw [mth_lst c2]
      show mthF .pop (.ref n) [] h = _
      unfold mthF
      dsimp only
      rw [c2]
      dsimp only
      rw [r3.length, y1]
      rfl
    · trivial
  · trivial
theorem sim_popI {i : Nat} {a : ME} {va : VE} (ha : Sim rK a va) : Sim rK (mMeth "pop" (mVar i) [a]) (vPopI i va) := fun F h s su e => by
  unfold vPopI
  split
  · rename_i us f q
    obtain ⟨n, ds, a1, b1, r⟩ := slot_lst e q
    have : mMeth "pop" (mVar i) [a] s h = (a s h).bind fun x h1 => mthF .pop (.ref n) [x] h1 := by
      show (mVar i s h).bind _ = _
      rw [var_eq a1]
      show (match mthOf "pop" (.ref n) h with | some m => (mArgs [a] s h).bind fun xs h2 => mthF m (.ref n) xs h2 | none => .no) = _
      rw [mth_lst b1]
      show (mArgs [a] s h).bind _ = _
      rw [margs1]
      cases a s h <;> rfl
    rw [this]
    refine (ha F h s su e).bind fun x p h1 su1 g1 e1 r1 => ?_
    split
    · rename_i k xs f2 q1 q2
      have t := KR.tr e1 r1
      rw [q1] at t
      have t := t.int; subst t
      split
      · rename_i u su2 z1 z2
        obtain ⟨n', ds2, us2, fl, us', a2, b2, c2, r3, e3, fin⟩ := chg_ok e1 z2
        rw [a1] at a2; cases a2
        rw [q2] at b2; cases b2
        obtain ⟨j, e5, rfl⟩ := map_inv e3
        rw [e5] at z1
        obtain ⟨y, y1, y2⟩ := r3.get z1
        obtain ⟨e4, g4⟩ := fin (ds2.eraseIdx j) (r3.eraseIdx j)
        refine ⟨y, _, ?_, g4, e4, g4.rel y2⟩
        unfold popIx at e5
        split at e5
        · rename_i c
          unfold mthF
          dsimp only
          rw [c2]
          dsimp only
          rw [if_pos c, r3.length, e5]
          dsimp only
          rw [y1]
          rfl
        · cases e5
      · trivial
    · trivial
  · trivial
end
end
end PyI
-- PvE
/-! PvE: loops on values -/
namespace PyI
noncomputable section
open PySem PySem.Spec L2
/-! ### a list that a loop reads is lent -/
section
variable {F : Fm} {h h1 h2 : DH} {s s1 s2 : DS} {su su0 su1 su2 : US} {d : D} {u : U}
theorem flip_ex {i : Nat} {f f' : Fl} (hf : f = .own ∨ f = .lent) (hf' : f' = .own ∨ f' = .lent) (q : su[i]? = some (some (u, f))) : ∀ j n, Ex s (su.set i (some (u, f'))) j n ↔ Ex s su j n := fun j n => by
  have il := lt_of_get q
  constructor
  · rintro ⟨a, v, b⟩
    refine ⟨a, ?_⟩
    by_cases ij : i = j
    · subst ij
      rcases hf with rfl | rfl
      · exact ⟨u, .inl q⟩
      · exact ⟨u, .inr q⟩
    · refine ⟨v, ?_⟩
      rcases b with b | b
      · rw [get_set, if_neg ij] at b; exact .inl b
      · rw [get_set, if_neg ij] at b; exact .inr b
  · rintro ⟨a, v, b⟩
    refine ⟨a, ?_⟩
    by_cases ij : i = j
    · subst ij
      rcases hf' with rfl | rfl
      · exact ⟨u, .inl (by rw [get_set, if_pos rfl, if_pos il])⟩
      · exact ⟨u, .inr (by rw [get_set, if_pos rfl, if_pos il])⟩
    · exact ⟨v, by rw [get_set, if_neg ij]; exact b⟩
theorem flip_xx {i : Nat} {f f' : Fl} (hf : f = .own ∨ f = .lent) (hf' : f' = .own ∨ f' = .lent) (q : su[i]? = some (some (u, f))) : XX F s (su.set i (some (u, f'))) = XX F s su := by
  funext m
  unfold XX Ow
  simp only [flip_ex hf hf' q]
theorem flip_er {i : Nat} {f f' : Fl} (hf : f = .own ∨ f = .lent) (hf' : f' = .own ∨ f' = .lent) (e : ER F h s su) (q : su[i]? = some (some (u, f))) : ER F h s (su.set i (some (u, f'))) where
  len := by simp [e.len]
  slot := fun j v g z => by
    rw [flip_xx hf hf' q]
    rcases get_set_some z with ⟨rfl, z, _⟩ | ⟨ne, z⟩
    · cases z
      obtain ⟨d, a, r⟩ := e.slot i u f q
      refine ⟨d, a, ?_⟩
      rcases hf with rfl | rfl <;> rcases hf' with rfl | rfl <;> exact r
    · exact e.slot j v g z
  inj := fun j k n a b => e.inj j k n ((flip_ex hf hf' q j n).mp a) ((flip_ex hf hf' q k n).mp b)
  io1 := fun j v z => by
    rcases get_set_some z with ⟨rfl, z, _⟩ | ⟨ne, z⟩
    · cases z; rcases hf' with z | z <;> cases z
    · exact e.io1 j v z
  pb := e.pb
  wb := e.wb
  bl := e.bl
inductive Lends : US → List Nat → US → Prop
  | nil {su : US} : Lends su [] su
  | cons {su su1 : US} {i : Nat} {u : U} {L : List Nat} : su[i]? = some (some (u, Fl.own)) → Lends (su.set i (some (u, .lent))) L su1 → Lends su (i :: L) su1
def unlend (i : Nat) (su : US) : US := match su[i]? with
  | some (some (u, .lent)) => su.set i (some (u, .own))
  | _ => su
def unlends : List Nat → US → US
  | [], su => su
  | i :: L, su => unlend i (unlends L su)
theorem unlend_xx {i : Nat} : XX F s (unlend i su) = XX F s su := by
  unfold unlend
  split
  · rename_i u q; exact flip_xx (.inr rfl) (.inl rfl) q
  · rfl
theorem unlends_xx : ∀ {L : List Nat}, XX F s (unlends L su) = XX F s su
  | [] => rfl
  | i :: L => by unfold unlends; rw [unlend_xx, unlends_xx]
theorem unlend_io {i j : Nat} {v : U} (q : (unlend i su)[j]? = some (some (v, Fl.io))) : su[j]? = some (some (v, Fl.io)) := by
  unfold unlend at q
  split at q
  · rcases get_set_some q with ⟨_, q, _⟩ | ⟨_, q⟩
    · cases q
    · exact q
  · exact q
theorem unlends_io : ∀ {L : List Nat} {j : Nat} {v : U}, (unlends L su)[j]? = some (some (v, Fl.io)) → su[j]? = some (some (v, Fl.io))
  | [], _, _, q => q
  | i :: L, _, _, q => unlends_io (L := L) (unlend_io q)
theorem unlend_ok {i : Nat} (q : su0[i]? = some (some (u, Fl.own))) (g : Go F h1 s1 (su0.set i (some (u, .lent))) h2 s2 su2) (e : ER F h2 s2 su2) : Go F h1 s1 su0 h2 s2 (unlend i su2) ∧ ER F h2 s2 (unlend i su2) := by
  have il := lt_of_get q
  have wr : ∀ n, Wr s1 (su0.set i (some (u, .lent))) n → Wr s1 su0 n := fun n ⟨j, v, a, b⟩ => by
    rcases get_set_some b with ⟨_, b, _⟩ | ⟨_, b⟩
    · cases b
    · exact ⟨j, v, a, b⟩
  have ow : ∀ n, Ow s1 (su0.set i (some (u, .lent))) n → Ow s1 su0 n := fun n ⟨j, z⟩ => ⟨j, (flip_ex (.inl rfl) (.inr rfl) q j n).mp z⟩
  have lt0 : ∀ (j : Nat) (v : U) (n : Nat), su2[j]? = some (some (v, Fl.lent)) → s2[j]? = some (some (D.ref n)) → i ≠ j → ∃ u0 : U, su0[j]? = some (some (u0, Fl.lent)) ∧ s1[j]? = some (some (D.ref n)) := fun j v n a b ij => by
    obtain ⟨u0, c1, c2⟩ := g.lt j v n a b
    exact ⟨u0, by rw [get_set, if_neg ij] at c1; exact c1, c2⟩
  unfold unlend
  split
  · rename_i v q2
    refine ⟨⟨g.le, fun n o a b c => g.fr n o a b fun z => c (wr n z), fun n z => ?_, fun n z => ?_, fun j w n a b => ?_⟩, flip_er (.inr rfl) (.inl rfl) e q2⟩
    · obtain ⟨j, w, a, b⟩ := z
      rcases get_set_some b with ⟨rfl, b, _⟩ | ⟨_, b⟩
      · obtain ⟨u0, c1, c2⟩ := g.lt i v n q2 a
        exact .inl ⟨i, u, c2, q⟩
      · rcases g.gw n ⟨j, w, a, b⟩ with z | z
        · exact .inl (wr n z)
        · exact .inr z
    · obtain ⟨j, z⟩ := z
      rcases g.gx n ⟨j, (flip_ex (.inr rfl) (.inl rfl) q2 j n).mp z⟩ with z | z
      · exact .inl (ow n z)
      · exact .inr z
    · rcases get_set_some a with ⟨_, a, _⟩ | ⟨ij, a⟩
      · cases a
      · exact lt0 j w n a b ij
  · rename_i q2
    refine ⟨⟨g.le, fun n o a b c => g.fr n o a b fun z => c (wr n z), fun n z => ?_, fun n z => ?_, fun j w n a b => ?_⟩, e⟩
    · rcases g.gw n z with z | z
      · exact .inl (wr n z)
      · exact .inr z
    · rcases g.gx n z with z | z
      · exact .inl (ow n z)
      · exact .inr z
    · by_cases ij : i = j
      · subst ij; exact absurd a (q2 w)
      · exact lt0 j w n a b ij
theorem unlends_ok : ∀ {L : List Nat} {su0 su1 : US}, Lends su0 L su1 → ∀ {su2 : US}, Go F h1 s1 su1 h2 s2 su2 → ER F h2 s2 su2 → Go F h1 s1 su0 h2 s2 (unlends L su2) ∧ ER F h2 s2 (unlends L su2)
  | _, _, _, .nil, _, g, e => ⟨g, e⟩
  | _, _, _, .cons q r, _, g, e => by
    obtain ⟨g2, e2⟩ := unlends_ok r g e
    exact unlend_ok q g2 e2
end
/-! ### sources -/
def srcU : U → Option (List U)
  | .tup us => some us
  | .scr ns => some (ns.map .int)
  | .lst us => some us
  | .str x => some (charsU x)
  | _ => none
abbrev VI := US → RG (List U × List Nat)
def lendV (p : U × Kd) (su : US) : RG (List U × List Nat) := match p.2 with
  | .view i => match su[i]? with
    | some (some (.lst us, .own)) => .ok (us, [i]) (su.set i (some (.lst us, .lent)))
    | _ => .no
  | _ => match srcU p.1 with
    | some us => .ok (us, []) su
    | none => .no
@[simp] theorem lend_view {i : Nat} {u : U} {su : US} : lendV (u, .view i) su = match su[i]? with
    | some (some (.lst us, .own)) => .ok (us, [i]) (su.set i (some (.lst us, .lent)))
    | _ => .no := rfl
@[simp] theorem lend_tmp {u : U} {su : US} : lendV (u, .tmp) su = match srcU u with | some us => .ok (us, []) su | none => .no := rfl
@[simp] theorem lend_shr {u : U} {su : US} : lendV (u, .shr) su = match srcU u with | some us => .ok (us, []) su | none => .no := rfl
@[simp] theorem lend_bor {u : U} {su : US} : lendV (u, .bor) su = match srcU u with | some us => .ok (us, []) su | none => .no := rfl
def Later (F : Fm) (h : DH) (s : DS) (su : US) (P : DH → (Nat → Prop) → Prop) : Prop := ∀ h' s' su', Go F h s su h' s' su' → ER F h' s' su' → P h' (XX F s' su')
def ItOk (F : Fm) (h : DH) (s : DS) (su : US) (it : IS) (items : List U) : Prop := Later F h s su fun h' X => (∀ (j : Nat) (u : U), items[j]? = some u → ∃ d, itemAt it j h' = some (some d) ∧ URel X h' d u) ∧ itemAt it items.length h' = some none
inductive Items (F : Fm) (h : DH) (s : DS) (su : US) : D → List U → Prop
  | ref {n : Nat} {us : List U} : (∃ ds, h[n]? = some (.lst ds) ∧ ds.length = us.length) → Later F h s su (fun h' X => ∃ ds, h'[n]? = some (.lst ds) ∧ URels X h' ds us) → Items F h s su (.ref n) us
  | tup {ds : List D} {us : List U} : URels (XX F s su) h ds us → Items F h s su (.tup ds) us
  | scr {ns : List Int} : Items F h s su (.scr ns) (ns.map .int)
  | str {x : Str} : Items F h s su (.str x) (charsU x)
section
variable {F : Fm} {h h1 h2 : DH} {s s1 s2 : DS} {su su0 su1 su2 : US} {d : D} {u : U}
theorem items_ref {n : Nat} {us : List U} (r : LR (XX F s su) h n us) (nw : ¬ F.w n) (nr : ¬ Wr s su n) : Items F h s su (.ref n) us := by
  obtain ⟨ds, e, q⟩ := r
  refine .ref ⟨ds, e, q.length⟩ fun h' s' su' g e' => ⟨ds, g.fr n _ e nw nr, g.rels q⟩
theorem items_u {us : List U} (r : URel (XX F s su) h d u) (q : srcU u = some us) : Items F h s su d us := by
  cases r with
  | tup r => cases q; exact .tup r
  | scr ns => cases q; exact .scr
  | str x => cases q; exact .str
  | lst nx e r => cases q; exact items_ref ⟨_, e, r⟩ (fun z => nx (.inr (.inl z))) fun z => nx (.inr (.inr z.ow))
  | _ => cases q
theorem lend_ok {p : U × Kd} {l : Nat} {us : List U} {L : List Nat} (e : ER F h s su) (r : KR F l h s su d p.1 p.2) (q : lendV p su = .ok (us, L) su1) : Lends su L su1 ∧ ER F h s su1 ∧ Items F h s su1 d us := by
  obtain ⟨u, k⟩ := p
  cases k with
  | view i =>
    rw [lend_view] at q
    split at q
    · rename_i us' q2
      cases q
      refine ⟨.cons q2 .nil, flip_er (.inl rfl) (.inr rfl) e q2, ?_⟩
      obtain ⟨a, b⟩ := r
      obtain ⟨d', a', n, us, rfl, c, hb, hp, r⟩ := e.slot i _ _ q2
      rw [a] at a'; cases a'; cases c
      refine items_ref (by rw [flip_xx (.inl rfl) (.inr rfl) q2]; exact r) (fun z => by have := e.wb n z; omega) fun ⟨j, v, a', b'⟩ => ?_
      rcases get_set_some b' with ⟨_, b', _⟩ | ⟨ij, b'⟩
      · cases b'
      · exact ij (e.inj i j n ⟨a, _, .inl q2⟩ ⟨a', v, .inl b'⟩)
    · cases q
  | tmp =>
    rw [lend_tmp] at q
    split at q
    · rename_i us' q2
      cases q
      obtain ⟨n, us, rfl, rfl, _, hb, hp, e2, r⟩ := r
      cases q2
      exact ⟨.nil, e, items_ref (r.less fun m => xx_add) (fun z => by have := e.wb n z; omega) e2.notWr⟩
    · cases q
  | shr =>
    rw [lend_shr] at q
    split at q
    · rename_i us' q2
      cases q
      exact ⟨.nil, e, items_u r q2⟩
    · cases q
  | bor =>
    rw [lend_bor] at q
    split at q
    · rename_i us' q2
      cases q
      rcases r with r | ⟨n, us, rfl, rfl, c1, c2, r⟩
      · exact ⟨.nil, e, items_u r q2⟩
      · cases q2
        exact ⟨.nil, e, items_ref r c1 c2⟩
    · cases q
def SimI (m : MI) (v : VI) : Prop := ∀ (F : Fm) (h : DH) (s : DS) (su : US), ER F h s su → match v su with
  | .ok p su1 => ∃ it h1 su0, m s h = .ok it h1 ∧ Go F h s su h1 s su0 ∧ Lends su0 p.2 su1 ∧ ER F h1 s su1 ∧ ItOk F h1 s su1 it p.1
  | .exc x su1 => ∃ e h1, m s h = .exc e h1 ∧ Go F h s su h1 s su1 ∧ ER F h1 s su1 ∧ XR (XX F s su1) h1 e x
  | .no => True
theorem fix_at {n j : Nat} {f : Nat → D} : itemAt (.fix n f) j h = some (if j < n then some (f j) else none) := rfl
theorem seq_ok {ds : List D} {us : List U} {f : Nat → D → D} {k : Nat → U → U} (r : URels (XX F s su) h ds us) {vs : List U} (hv : ∀ j, vs[j]? = us[j]?.map (k j)) (hl : vs.length = us.length)
    (hk : ∀ j d u h' X, URel X h' d u → URel X h' (f j d) (k j u)) : ItOk F h s su (.fix ds.length fun i => f i (ds.getD i .non)) vs := fun h' s' su' g e => by
  have r := g.rels r
  constructor
  · intro j u hj
    rw [hv] at hj
    obtain ⟨v, e1, rfl⟩ := map_inv hj
    obtain ⟨d, e2, rd⟩ := r.get e1
    refine ⟨f j d, ?_, hk _ _ _ _ _ rd⟩
    rw [fix_at, if_pos (lt_of_get e2), List.getD_eq_getElem?_getD, e2]
    rfl
  · rw [fix_at, if_neg (by rw [hl, r.length]; omega)]
theorem it_fix {n : Nat} {f : Nat → D} {us : List U} (hl : us.length = n) (q : ∀ (X : Nat → Prop) (h' : DH) (j : Nat) (u : U), us[j]? = some u → URel X h' (f j) u) : ItOk F h s su (.fix n f) us := fun h' s' su' g e =>
  ⟨fun j u hj => ⟨f j, by rw [fix_at, if_pos (by have := lt_of_get hj; omega)], q _ _ j u hj⟩, by rw [fix_at, if_neg (by omega)]⟩
theorem chars_len (x : Str) : (charsU x).length = x.cps.size := by unfold charsU; simp
theorem chars_at {x : Str} {j : Nat} {u : U} (q : (charsU x)[j]? = some u) : u = .str ⟨#[x.cps.getD j 0]⟩ := by
  unfold charsU at q
  rw [List.getElem?_map] at q
  obtain ⟨c, e, rfl⟩ := map_inv q
  have hj := lt_of_get e
  rw [Array.length_toList] at hj
  congr
  rw [Array.getElem?_toList] at e
  simp [Array.getD, hj]
  rw [Array.getElem?_eq_getElem hj] at e
  exact (Option.some.inj e).symm
theorem plain_ok {us : List U} (i : Items F h s su d us) : ∃ it, srcOf d h = some it ∧ ItOk F h s su it us := by
  cases i with
  | ref a q =>
    rename_i n
    obtain ⟨ds, a, _⟩ := a
    refine ⟨.lst n, by unfold srcOf; dsimp only; rw [isLst_of a]; rfl, fun h' s' su' g e => ?_⟩
    obtain ⟨ds, e1, r⟩ := q h' s' su' g e
    constructor
    · intro j u hj
      obtain ⟨d, e2, rd⟩ := r.get hj
      exact ⟨d, by show lstAt h' n j = _; unfold lstAt; rw [e1]; dsimp only; rw [e2], rd⟩
    · show lstAt h' n us.length = _
      unfold lstAt
      rw [e1]
      dsimp only
      rw [List.getElem?_eq_none (by rw [r.length]; exact Nat.le_refl _)]
  | tup r => exact ⟨_, rfl, seq_ok (f := fun _ d => d) (k := fun _ u => u) r (fun j => by simp) rfl fun _ _ _ _ _ z => z⟩
  | scr => exact ⟨_, rfl, seq_ok (f := fun _ d => d) (k := fun _ u => u) (ints_urel _) (fun j => by rw [show (fun u : U => u) = id from rfl, Option.map_id]; rfl) rfl fun _ _ _ _ _ z => z⟩
  | str => exact ⟨_, rfl, it_fix (chars_len _) fun X h' j u q => by rw [chars_at q]; exact .str _⟩
def enumU : Nat → List U → List U
  | _, [] => []
  | k, x :: r => .tup [.int k, x] :: enumU (k + 1) r
theorem enumU_len : ∀ {k : Nat} {l : List U}, (enumU k l).length = l.length
  | _, [] => rfl
  | k, x :: r => by rw [enumU, List.length_cons, List.length_cons, enumU_len]
theorem enumU_at : ∀ {l : List U} {k j : Nat}, (enumU k l)[j]? = l[j]?.map fun x => .tup [.int ((k + j : Nat) : Int), x]
  | [], k, j => by simp [enumU]
  | x :: r, k, 0 => by simp [enumU]
  | x :: r, k, j + 1 => by
    rw [enumU, List.getElem?_cons_succ, List.getElem?_cons_succ, enumU_at, show k + 1 + j = k + (j + 1) by omega]
theorem enum_ok {us : List U} (i : Items F h s su d us) : ∃ it, enumOf h d = some it ∧ ItOk F h s su it (enumU 0 us) := by
  cases i with
  | ref a q =>
    rename_i n
    obtain ⟨ds, a, _⟩ := a
    refine ⟨.enl n, by unfold enumOf; dsimp only; rw [isLst_of a]; rfl, fun h' s' su' g e => ?_⟩
    obtain ⟨ds, e1, r⟩ := q h' s' su' g e
    constructor
    · intro j u hj
      rw [enumU_at, Nat.zero_add] at hj
      obtain ⟨v, e3, rfl⟩ := map_inv hj
      obtain ⟨d, e2, rd⟩ := r.get e3
      refine ⟨.tup [.int j, d], ?_, .tup (.cons (.int _) (.cons rd .nil))⟩
      show (lstAt h' n j).map _ = _
      unfold lstAt; rw [e1]; dsimp only; rw [e2]; rfl
    · show (lstAt h' n _).map _ = _
      unfold lstAt
      rw [e1]
      dsimp only
      rw [List.getElem?_eq_none (by rw [r.length, enumU_len]; exact Nat.le_refl _)]
      rfl
  | tup r => exact ⟨_, rfl, seq_ok (f := fun i d => .tup [.int i, d]) (k := fun i u => .tup [.int i, u]) r (fun j => by rw [enumU_at, Nat.zero_add]) enumU_len fun _ _ _ _ _ z => .tup (.cons (.int _) (.cons z .nil))⟩
  | scr => exact ⟨_, rfl, seq_ok (f := fun i d => .tup [.int i, d]) (k := fun i u => .tup [.int i, u]) (ints_urel _) (fun j => by rw [enumU_at, Nat.zero_add]) enumU_len fun _ _ _ _ _ z => .tup (.cons (.int _) (.cons z .nil))⟩
  | str => exact ⟨_, rfl, it_fix (by rw [enumU_len]; exact chars_len _) fun X h' j u q => by
      rw [enumU_at, Nat.zero_add] at q
      obtain ⟨v, e3, rfl⟩ := map_inv q
      rw [chars_at e3]; exact .tup (.cons (.int _) (.cons (.str _) .nil))⟩
theorem rev_ok {us : List U} (ns : ∀ x, d = .str x → x.length ≤ 16777216) (i : Items F h s su d us) : ∃ it, revOf h d = some it ∧ ItOk F h s su it us.reverse := by
  cases i with
  | ref a q =>
    rename_i n
    obtain ⟨ds, a, al⟩ := a
    refine ⟨.rvl n ds.length, by unfold revOf; dsimp only; rw [a], fun h' s' su' g e => ?_⟩
    obtain ⟨ds', e1, r⟩ := q h' s' su' g e
    constructor
    · intro j u hj
      have hlt := lt_of_get hj
      rw [List.length_reverse] at hlt
      rw [List.getElem?_reverse hlt] at hj
      obtain ⟨d, e2, rd⟩ := r.get hj
      refine ⟨d, ?_, rd⟩
      show (if j < ds.length then (lstAt h' n (ds.length - 1 - j)).bind fun o => o.map some else some none) = _
      rw [if_pos (by omega), al]
      unfold lstAt; rw [e1]; dsimp only; rw [e2]; rfl
    · show (if _ < ds.length then _ else some none) = _
      rw [if_neg (by rw [List.length_reverse]; omega)]
  | tup r => exact ⟨_, rfl, seq_ok (f := fun _ d => d) (k := fun _ u => u) r.rev (fun j => by simp) rfl fun _ _ _ _ _ z => z⟩
  | scr => exact ⟨_, rfl, seq_ok (f := fun _ d => d) (k := fun _ u => u) (ints_urel _).rev (fun j => by simp) rfl fun _ _ _ _ _ z => z⟩
  | str =>
    rename_i x
    refine ⟨isRevS x, by show (if x.length ≤ 16777216 then some (isRevS x) else none) = _; rw [if_pos (ns x rfl)], it_fix (by rw [List.length_reverse]; exact chars_len _) fun X h' j u q => ?_⟩
    have hlt := lt_of_get q
    rw [List.length_reverse] at hlt
    rw [List.getElem?_reverse hlt] at q
    rw [chars_at q, chars_len]
    exact .str _
def vPlain (a : VE) : VI := fun su => (a su).bind lendV
def vEnum (a : VE) : VI := fun su => (a su).bind fun p su1 => (lendV p su1).bind fun q su2 => .ok (enumU 0 q.1, q.2) su2
def noStr : U → Bool
  | .str z => decide (z.length ≤ 16777216)
  | _ => true
def vRevI (a : VE) : VI := fun su => (a su).bind fun p su1 => if noStr p.1 = true then (lendV p su1).bind fun q su2 => .ok (q.1.reverse, q.2) su2 else .no
theorem lend_noExc {p : U × Kd} {x : XU} : lendV p su ≠ .exc x su1 := by
  intro q
  obtain ⟨u, k⟩ := p
  cases k with
  | view i => rw [lend_view] at q; split at q <;> cases q
  | tmp => rw [lend_tmp] at q; split at q <;> cases q
  | shr => rw [lend_shr] at q; split at q <;> cases q
  | bor => rw [lend_bor] at q; split at q <;> cases q
/-- one source, told from its items -/
theorem simi_one {a : ME} {va : VE} (ha : Sim rK a va) {f : DH → D → Option IS} {k : List U → List U} {t : U → Bool}
    (hf : ∀ F h s su d us u, t u = true → TR (XX F s su) h d u → Items F h s su d us → ∃ it, f h d = some it ∧ ItOk F h s su it (k us)) :
    SimI (fun s h => (a s h).bind fun x h1 => retI (f h1 x) h1) (fun su => (va su).bind fun p su1 => if t p.1 = true then (lendV p su1).bind fun q su2 => .ok (k q.1, q.2) su2 else .no) := fun F h s su e => by
  have q := ha F h s su e
  dsimp only
  cases z : va su with
  | ok p su1 =>
    rw [z] at q
    obtain ⟨d, h1, e1, g, er, r⟩ := q
    dsimp only [rg_ok]
    by_cases tt : t p.1 = true
    · rw [if_pos tt]
      cases zz : lendV p su1 with
      | ok w su2 =>
        obtain ⟨us, L⟩ := w
        obtain ⟨l1, e2, i⟩ := lend_ok er r zz
        have tr : TR (XX F s su2) h1 d p.1 := by
          have t0 := KR.tr er r
          have : ∀ {L : List Nat} {su1 su2 : US}, Lends su1 L su2 → XX F s su2 = XX F s su1 := fun l => by
            induction l with
            | nil => rfl
            | cons q _ ih => rw [ih, flip_xx (.inl rfl) (.inr rfl) q]
          rw [this l1]; exact t0
        obtain ⟨it, e3, io⟩ := hf F h1 s su2 d us p.1 tt tr i
        refine ⟨it, h1, su1, ?_, g, l1, e2, io⟩
        rw [e1]
        show retI (f h1 d) h1 = _
        rw [e3]
        rfl
      | exc x su2 => exact absurd zz lend_noExc
      | no => trivial
    · rw [if_neg tt]; trivial
  | exc x su1 =>
    rw [z] at q
    obtain ⟨d, h1, e1, g, er, r⟩ := q
    exact ⟨d, h1, by rw [e1]; rfl, g, er, r⟩
  | no => trivial
theorem lend_id {p : U × Kd} : ((lendV p su).bind fun q su2 => .ok (q.1, q.2) su2) = lendV p su := by
  cases lendV p su <;> rfl
theorem simi_plain {a : ME} {va : VE} (ha : Sim rK a va) : SimI (iPlain a) (vPlain va) := by
  have := simi_one (f := fun h d => srcOf d h) (k := id) (t := fun _ => true) ha fun F h s su d us u _ _ i => plain_ok i
  intro F h s su e
  have q := this F h s su e
  have w : vPlain va su = ((va su).bind fun p su1 => if (fun _ : U => true) p.1 = true then (lendV p su1).bind fun q su2 => .ok (id q.1, q.2) su2 else .no) := by
    unfold vPlain
    congr
    funext p su1
    rw [if_pos rfl]
    exact lend_id.symm
  rw [w]
  exact q
theorem simi_enum {a : ME} {va : VE} (ha : Sim rK a va) : SimI (iEnumM a) (vEnum va) := by
  have := simi_one (f := enumOf) (k := enumU 0) (t := fun _ => true) ha fun F h s su d us u _ _ i => enum_ok i
  intro F h s su e
  exact this F h s su e
theorem simi_rev {a : ME} {va : VE} (ha : Sim rK a va) : SimI (iRevM a) (vRevI va) := by
  refine simi_one (f := revOf) (k := List.reverse) (t := noStr) ha fun F h s su d us u hu r i => rev_ok (fun x hx => ?_) i
  subst hx
  rcases r with r | ⟨n, us, z, _⟩
  · cases r; exact of_decide_eq_true hu
  · cases z
end
/-! ### ranges, zip -/
def rng1U : List U → Option (List U)
  | [.int j] => if smallI j then some (rgU 0 j) else none
  | _ => none
def rng2U : List U → Option (List U)
  | [.int i, .int j] => if smallI i && smallI j then some (rgU i j) else none
  | _ => none
def stpU (i c : Int) (n : Nat) : List U := (List.range n).map fun k => U.int (i + (k : Nat) * c)
def rng3U : List U → Option (List U)
  | [.int i, .int j, .int c] => if decide (c ≠ 0) && decide (c.natAbs < 1073741824) && Builtin.Range.small i j c && decide (0 ≤ Builtin.Range.rangeSize i j c) then some (stpU i c (Builtin.Range.rangeSize i j c).toNat) else none
  | _ => none
def vRange (f : List U → Option (List U)) (l : List VE) : VI := fun su => (vArgs l su).bind fun us su1 => match f us with
  | some items => .ok (items, []) su1
  | none => .no
def vRevRg (l : List VE) : VI := fun su => (vArgs l su).bind fun us su1 => match rgArgU us with
  | some p => if smallI p.1 && smallI p.2 then .ok ((rgU p.1 p.2).reverse, []) su1 else .no
  | none => .no
section
variable {F : Fm} {h h1 h2 : DH} {s s1 s2 : DS} {su su0 su1 su2 : US} {d : D} {u : U}
def RgS (f : List D → Option IS) (g : List U → Option (List U)) : Prop := ∀ (X : Nat → Prop) (h : DH) (ds : List D) (us items : List U), TRs X h ds us → g us = some items → ∃ it, f ds = some it ∧ ∀ F h s su, ItOk F h s su it items
theorem rgU_len {a b : Int} : (rgU a b).length = (b - a).toNat := by unfold rgU; simp
theorem rgU_at {a b : Int} {j : Nat} {u : U} (q : (rgU a b)[j]? = some u) : u = .int (a + (j : Nat)) := by
  unfold rgU at q
  rw [List.getElem?_map] at q
  obtain ⟨c, e, rfl⟩ := map_inv q
  rw [List.getElem?_range (by have := lt_of_get e; simpa using this)] at e
  cases e; rfl
theorem stp_at {a c : Int} {n j : Nat} {u : U} (q : (stpU a c n)[j]? = some u) : u = .int (a + (j : Nat) * c) := by
  unfold stpU at q
  rw [List.getElem?_map] at q
  obtain ⟨c, e, rfl⟩ := map_inv q
  rw [List.getElem?_range (by have := lt_of_get e; simpa using this)] at e
  cases e; rfl
theorem rgs1 : RgS rngOf1 rng1U := fun X h ds us items r q => by
  unfold rng1U at q
  split at q
  · split at q
    · rename_i j c
      cases q
      obtain ⟨d, rfl, r1⟩ := trs1 r; have a := r1.int; subst a
      refine ⟨isRng 0 1 j.toNat, by rw [rn_one, if_pos c], fun F h s su => it_fix (by rw [rgU_len]; simp) fun X h' i u z => ?_⟩
      rw [rgU_at z, Int.mul_one]; exact .int _
    · cases q
  · cases q
theorem rgs2 : RgS rngOf2 rng2U := fun X h ds us items r q => by
  unfold rng2U at q
  split at q
  · split at q
    · rename_i i j c
      cases q
      obtain ⟨d, e, rfl, r1, r2⟩ := trs2 r; have a := r1.int; have b := r2.int; subst a; subst b
      refine ⟨isRng i 1 (j - i).toNat, by rw [rn_two, if_pos c], fun F h s su => it_fix (by rw [rgU_len]) fun X h' k u z => ?_⟩
      rw [rgU_at z, Int.mul_one]; exact .int _
    · cases q
  · cases q
theorem rgs3 : RgS rngOf3 rng3U := fun X h ds us items r q => by
  unfold rng3U at q
  split at q
  · split at q
    · rename_i i j k c
      cases q
      cases r with | cons r1 r => obtain ⟨d, e, rfl, r2, r3⟩ := trs2 r; have a := r1.int; have b := r2.int; have c' := r3.int; subst a; subst b; subst c'
                                  refine ⟨isRng i k (Builtin.Range.rangeSize i j k).toNat, by unfold rngOf3; dsimp only; rw [if_pos c], fun F h s su => it_fix (by unfold stpU; simp) fun X h' m u z => ?_⟩
                                  rw [stp_at z]; exact .int _
    · cases q
  · cases q
theorem simi_range {f : List D → Option IS} {g : List U → Option (List U)} (o : RgS f g) {l : List ME} {w : List VE} (q : SimL rK l w) : SimI (iRange f l) (vRange g w) := fun F h s su e => by
  have q := sim_args q F h s su e
  unfold iRange vRange
  cases z : vArgs w su with
  | ok us su1 =>
    rw [z] at q
    obtain ⟨ds, h1, e1, g1, er, r⟩ := q
    dsimp only [rg_ok]
    cases zz : g us with
    | some items =>
      obtain ⟨it, e2, i⟩ := o _ _ _ _ _ r zz
      exact ⟨it, h1, su1, by rw [e1]; show retI (f ds) h1 = _; rw [e2]; rfl, g1, .nil, er, i _ _ _ _⟩
    | none => trivial
  | exc x su1 =>
    rw [z] at q
    obtain ⟨d, h1, e1, g, er, r⟩ := q
    exact ⟨d, h1, by rw [e1]; rfl, g, er, r⟩
  | no => trivial
theorem simi_revRg {l : List ME} {w : List VE} (q : SimL rK l w) : SimI (iRevRg l) (vRevRg w) := fun F h s su e => by
  have q := sim_args q F h s su e
  unfold iRevRg vRevRg
  cases z : vArgs w su with
  | ok us su1 =>
    rw [z] at q
    obtain ⟨ds, h1, e1, g1, er, r⟩ := q
    dsimp only [rg_ok]
    cases zz : rgArgU us with
    | some p =>
      obtain ⟨a, b⟩ := p
      have e2 := rgArg_tr r zz
      dsimp only
      by_cases c : (smallI a && smallI b) = true
      · rw [if_pos c]
        refine ⟨isRng (a + (((b - a).toNat : Nat) : Int) - 1) (-1) (b - a).toNat, h1, su1, ?_, g1, .nil, er, it_fix (by simp [rgU_len]) fun X h' j u q => ?_⟩
        · rw [e1]
          show (match rgArg ds with | some (a, b) => if (smallI a && smallI b) = true then Res.ok (isRng (a + (((b - a).toNat : Nat) : Int) - 1) (-1) (b - a).toNat) h1 else .no | none => .no) = _
          rw [e2]
          dsimp only
          rw [if_pos c]
        · have hj := lt_of_get q
          rw [List.length_reverse] at hj
          rw [List.getElem?_reverse hj] at q
          have := rgU_at q
          rw [this]
          rw [rgU_len] at hj ⊢
          have : a + ((b - a).toNat : Nat) - 1 + (j : Nat) * -1 = a + (((b - a).toNat - 1 - j : Nat) : Int) := by omega
          rw [this]
          exact .int _
      · rw [if_neg c]; trivial
    | none => trivial
  | exc x su1 =>
    rw [z] at q
    obtain ⟨d, h1, e1, g, er, r⟩ := q
    exact ⟨d, h1, by rw [e1]; rfl, g, er, r⟩
  | no => trivial
end
/-! ### for -/
def forV (g : VG) (b : VS) : List U → US → SV
  | [], su => .nx su
  | x :: r, su => match g x su with
    | none => .no
    | some su1 => match b su1 with
      | .nx su2 => forV g b r su2
      | .ct su2 => forV g b r su2
      | .bk su2 => .nx su2
      | r => r
def endS (L : List Nat) : SV → SV
  | .nx su => .nx (unlends L su)
  | .bk su => .bk (unlends L su)
  | .ct su => .ct (unlends L su)
  | .rt u fr su => .rt u fr (unlends L su)
  | .ex x su => .ex x (unlends L su)
  | .no => .no
def vFor (src : VI) (g : VG) (b : VS) : VS := fun su => bindV (src su) fun p su1 => if p.1.length < 1000000 then endS p.2 (forV g b p.1 su1) else .no
def whV (t : VT) (b : VS) : Nat → US → SV
  | 0, _ => .no
  | m + 1, su => bindV (t su) fun k su1 => if k then (match b su1 with
      | .nx su2 => whV t b m su2
      | .ct su2 => whV t b m su2
      | .bk su2 => .nx su2
      | r => r) else .nx su1
def vWhile (t : VT) (b : VS) : VS := fun su => whV t b fuel su
section
variable {F : Fm} {h h1 h2 : DH} {s s1 s2 : DS} {su su0 su1 su2 : US} {d : D} {u : U}
theorem for_go {it : IS} {items : List U} {g : MG} {vg : VG} {b : MS} {vb : VS} (hg : SimG g vg) (hb : SimS b vb) (i : ItOk F h1 s1 su1 it items) : ∀ (rest : List U) (j m : Nat) (h : DH) (s : DS) (su : US), j + rest.length = items.length → items.drop j = rest → rest.length < m → Go F h1 s1 su1 h s su → ER F h s su → OkS F h s su (forGo it g b m j s h) (forV vg vb rest su)
  | _, _, 0, _, _, _, _, _, hm, _, _ => by omega
  | [], j, m + 1, h, s, su, hj, hd, hm, g0, e => by
    obtain ⟨_, i2⟩ := i h s su g0 e
    unfold forGo
    rw [show j = items.length by simpa using hj, i2]
    exact .nxt e
  | x :: r, j, m + 1, h, s, su, hj, hd, hm, g0, e => by
    obtain ⟨i1, _⟩ := i h s su g0 e
    have hx : items[j]? = some x := by
      have := congrArg List.head? hd
      rw [List.head?_drop] at this
      exact this
    obtain ⟨d, e1, r1⟩ := i1 j x hx
    unfold forGo forV
    rw [e1]
    dsimp only
    cases z : vg x su with
    | none => trivial
    | some su2 =>
      obtain ⟨s2, h2, e2, g2, er2⟩ := hg F h s su d x e r1 su2 z
      rw [e2]
      dsimp only
      have q := hb F h2 s2 su2 er2
      have hd' : items.drop (j + 1) = r := by rw [← List.drop_drop, hd]; rfl
      have hj' : j + 1 + r.length = items.length := by simp at hj; omega
      refine OkS.go g2 ?_
      cases zz : vb su2 with
      | nx su3 =>
        rw [zz] at q
        obtain ⟨s3, h3, e3, g3, er3⟩ := q
        rw [e3]
        exact OkS.go g3 (for_go hg hb i r (j + 1) m h3 s3 su3 hj' hd' (by simp at hm; omega) ((g0.trans g2).trans g3) er3)
      | ct su3 =>
        rw [zz] at q
        obtain ⟨s3, h3, e3, g3, er3⟩ := q
        rw [e3]
        exact OkS.go g3 (for_go hg hb i r (j + 1) m h3 s3 su3 hj' hd' (by simp at hm; omega) ((g0.trans g2).trans g3) er3)
      | bk su3 =>
        rw [zz] at q
        obtain ⟨s3, h3, e3, g3, er3⟩ := q
        rw [e3]
        exact ⟨s3, h3, rfl, g3, er3⟩
      | rt u fr su3 => rw [zz] at q; obtain ⟨d, s3, h3, e3, g3, er3⟩ := q; rw [e3]; exact ⟨d, s3, h3, rfl, g3, er3⟩
      | ex x su3 => rw [zz] at q; obtain ⟨d, s3, h3, e3, g3, er3⟩ := q; rw [e3]; exact ⟨d, s3, h3, rfl, g3, er3⟩
      | no => trivial
theorem end_ok {L : List Nat} {r : SR} {v : SV} (l : Lends su0 L su1) (q : OkS F h s su1 r v) : OkS F h s su0 r (endS L v) := by
  cases v with
  | nx su2 => obtain ⟨s2, h2, e, g, er⟩ := q; obtain ⟨g2, e2⟩ := unlends_ok l g er; exact ⟨s2, h2, e, g2, e2⟩
  | bk su2 => obtain ⟨s2, h2, e, g, er⟩ := q; obtain ⟨g2, e2⟩ := unlends_ok l g er; exact ⟨s2, h2, e, g2, e2⟩
  | ct su2 => obtain ⟨s2, h2, e, g, er⟩ := q; obtain ⟨g2, e2⟩ := unlends_ok l g er; exact ⟨s2, h2, e, g2, e2⟩
  | rt u fr su2 =>
    obtain ⟨d, s2, h2, e, g, er, r⟩ := q
    obtain ⟨g2, e2⟩ := unlends_ok l g er
    refine ⟨d, s2, h2, e, g2, e2, ?_⟩
    cases fr with
    | true =>
      obtain ⟨n, us, a, b, c, e, f, k⟩ := r
      exact ⟨n, us, a, b, c, e, f, fun j us' n0 x y => k j us' n0 x (unlends_io y)⟩
    | false => show URel (XX F s2 (unlends L su2)) h2 d u; rw [unlends_xx]; exact r
  | ex x su2 =>
    obtain ⟨d, s2, h2, e, g, er, r⟩ := q
    obtain ⟨g2, e2⟩ := unlends_ok l g er
    exact ⟨d, s2, h2, e, g2, e2, by rw [unlends_xx]; exact r⟩
  | no => trivial
theorem sims_for {src : MI} {vs : VI} {g : MG} {vg : VG} {b : MS} {vb : VS} (hs : SimI src vs) (hg : SimG g vg) (hb : SimS b vb) : SimS (mFor src g b) (vFor vs vg vb) := fun F h s su e => by
  have q := hs F h s su e
  unfold mFor vFor
  cases z : vs su with
  | ok p su1 =>
    rw [z] at q
    obtain ⟨it, h1, su0, e1, g1, l, er, i⟩ := q
    rw [e1]
    dsimp only [bv_ok, bindS_ok]
    split
    · rename_i hn
      exact OkS.go g1 (end_ok l (for_go hg hb i p.1 0 fuel h1 s su1 (by simp) rfl (by rw [fuel_eq]; exact hn) Go.refl er))
    · trivial
  | exc x su1 =>
    rw [z] at q
    obtain ⟨d, h1, e1, g1, er, r⟩ := q
    rw [e1]
    exact ⟨d, s, h1, rfl, g1, er, r⟩
  | no => trivial
theorem wh_go {t : MT} {vt : VT} {b : MS} {vb : VS} (ht : Sim (rEq Bool) t vt) (hb : SimS b vb) : ∀ (m : Nat) (h : DH) (s : DS) (su : US), ER F h s su → OkS F h s su (whGo t b m s h) (whV vt vb m su)
  | 0, _, _, _, _ => trivial
  | m + 1, h, s, su, e => OkS.bind (ht F h s su e) fun k k' h1 su1 g1 e1 r1 => by
    cases r1
    cases k with
    | false => exact .nxt e1
    | true =>
      have q := hb F h1 s su1 e1
      rw [if_pos rfl, if_pos rfl]
      cases zz : vb su1 with
      | nx su3 =>
        rw [zz] at q
        obtain ⟨s3, h3, e3, g3, er3⟩ := q
        rw [e3]
        exact OkS.go g3 (wh_go ht hb m h3 s3 su3 er3)
      | ct su3 =>
        rw [zz] at q
        obtain ⟨s3, h3, e3, g3, er3⟩ := q
        rw [e3]
        exact OkS.go g3 (wh_go ht hb m h3 s3 su3 er3)
      | bk su3 =>
        rw [zz] at q
        obtain ⟨s3, h3, e3, g3, er3⟩ := q
        rw [e3]
        exact ⟨s3, h3, rfl, g3, er3⟩
      | rt u fr su3 => rw [zz] at q; obtain ⟨d, s3, h3, e3, g3, er3⟩ := q; rw [e3]; exact ⟨d, s3, h3, rfl, g3, er3⟩
      | ex x su3 => rw [zz] at q; obtain ⟨d, s3, h3, e3, g3, er3⟩ := q; rw [e3]; exact ⟨d, s3, h3, rfl, g3, er3⟩
      | no => trivial
theorem sims_while {t : MT} {vt : VT} {b : MS} {vb : VS} (ht : Sim (rEq Bool) t vt) (hb : SimS b vb) : SimS (mWhile t b) (vWhile vt vb) := fun F h s su e => wh_go ht hb fuel h s su e
end
end
end PyI
-- PvE1
/-! PvE1: zip -/
namespace PyI
noncomputable section
open PySem PySem.Spec L2
def zipU (xs ys : List U) : List U := List.zipWith (fun x y => U.tup [x, y]) xs ys
open Classical in
def vZip (a b : VE) : VI := fun su => (a su).bind fun p su1 => (b su1).bind fun q su2 => if pend p su2 then (lendV p su2).bind fun r su3 => if pend q su3 then (lendV q su3).bind fun r' su4 => .ok (zipU r.1 r'.1, r.2 ++ r'.2) su4 else .no else .no
section
variable {F : Fm} {h h1 h2 : DH} {s s1 s2 : DS} {su su0 su1 su2 : US} {d : D} {u : U}
theorem zipU_at {xs ys : List U} {j : Nat} {u : U} (q : (zipU xs ys)[j]? = some u) : ∃ x y, xs[j]? = some x ∧ ys[j]? = some y ∧ u = .tup [x, y] := by
  unfold zipU at q
  rw [List.getElem?_zipWith] at q
  cases e1 : xs[j]? with
  | none => rw [e1] at q; cases q
  | some x =>
    cases e2 : ys[j]? with
    | none => rw [e1, e2] at q; cases q
    | some y =>
      rw [e1, e2] at q
      exact ⟨x, y, rfl, rfl, (Option.some.inj q).symm⟩
theorem Lends.app {L L' : List Nat} (a : Lends su L su1) (b : Lends su1 L' su2) : Lends su (L ++ L') su2 := by
  induction a with
  | nil => exact b
  | cons q _ ih => exact .cons q (ih b)
theorem Lends.xx {L : List Nat} (l : Lends su L su1) : XX F s su1 = XX F s su := by
  induction l with
  | nil => rfl
  | cons q _ ih => rw [ih, flip_xx (.inl rfl) (.inr rfl) q]
theorem Lends.wr {L : List Nat} (l : Lends su L su1) : ∀ n, Wr s su1 n → Wr s su n := by
  induction l with
  | nil => exact fun _ q => q
  | cons q _ ih =>
    intro n z
    obtain ⟨j, v, a, b⟩ := ih n z
    rcases get_set_some b with ⟨_, b, _⟩ | ⟨_, b⟩
    · cases b
    · exact ⟨j, v, a, b⟩
theorem Lends.er {L : List Nat} (l : Lends su L su1) : ∀ {F : Fm}, ER F h s su → ER F h s su1 := by
  induction l with
  | nil => exact fun e => e
  | cons q _ ih => exact fun e => ih (flip_er (.inl rfl) (.inr rfl) e q)
theorem Lends.kr {L : List Nat} {l : Nat} {k : Kd} (w : Lends su L su1) (r : KR F l h s su d u k) (q : pend (u, k) su1) : KR F l h s su1 d u k := by
  cases k with
  | shr => show URel _ _ _ _; rw [w.xx]; exact r
  | tmp =>
    obtain ⟨n, us, a, b, c, hb, hp, e, r⟩ := r
    exact ⟨n, us, a, b, c, hb, hp, w.er e, by rw [w.xx]; exact r⟩
  | bor =>
    rcases r with r | ⟨n, us, a, b, c1, c2, r⟩
    · exact .inl (by rw [w.xx]; exact r)
    · exact .inr ⟨n, us, a, b, c1, fun z => c2 (w.wr n z), by rw [w.xx]; exact r⟩
  | view i => exact ⟨r.1, q⟩
def borK : Kd → Kd
  | .tmp => .bor
  | k => k
theorem lend_borK {k : Kd} : lendV (u, borK k) su = lendV (u, k) su := by cases k <;> rfl
theorem KR.laterB {l : Nat} {k : Kd} (e1 : ER F h1 s su1) (r : KR F l h1 s su1 d u k) (g : Go F h1 s su1 h2 s su2) (q : pend (u, k) su2) : KR F l h2 s su2 d u (borK k) := by
  cases k with
  | shr => exact g.rel r
  | tmp =>
    obtain ⟨n, us, a, b, c, hb, hp, e, q⟩ := r
    have nw : ¬ F.w n := fun z => by have := e1.wb n z; omega
    refine .inr ⟨n, us, a, b, nw, fun z => ?_, g.lr nw (ER.notWr e) (q.less fun m => xx_add)⟩
    rcases g.gw n z with z | z
    · exact ER.notWr e z
    · obtain ⟨ds, q, _⟩ := q
      have := lt_of_get q
      omega
  | bor =>
    rcases r with r | ⟨n, us, a, b, c1, c2, q⟩
    · exact .inl (g.rel r)
    · refine .inr ⟨n, us, a, b, c1, fun z => ?_, g.lr c1 c2 q⟩
      rcases g.gw n z with z | z
      · exact c2 z
      · obtain ⟨ds, q, _⟩ := q
        have := lt_of_get q
        omega
  | view i => exact ⟨r.1, q⟩
/-- the items of a source, for zip -/
def ZI (F : Fm) (h : DH) (s : DS) (su : US) (d : D) (us : List U) : Prop := ∃ ds, zsD h d = some ds ∧ URels (XX F s su) h ds us ∧ ∀ n, d = .ref n → ¬ F.w n ∧ ¬ Wr s su n
theorem zi_u {us : List U} (r : URel (XX F s su) h d u) (q : srcU u = some us) : ZI F h s su d us := by
  cases r with
  | tup r => cases q; exact ⟨_, rfl, r, fun _ e => nomatch e⟩
  | scr ns => cases q; exact ⟨_, rfl, ints_urel _, fun _ e => nomatch e⟩
  | str x =>
    cases q
    refine ⟨_, rfl, ?_, fun _ e => nomatch e⟩
    unfold charsD charsU
    generalize x.cps.toList = l
    induction l with
    | nil => exact .nil
    | cons c l ih => exact .cons (.str _) ih
  | lst nx e r => cases q; exact ⟨_, by unfold zsD; dsimp only; rw [e], r, fun n e => by cases e; exact ⟨fun z => nx (.inr (.inl z)), fun z => nx (.inr (.inr z.ow))⟩⟩
  | _ => cases q
theorem zi_lr {n : Nat} {us : List U} (r : LR (XX F s su) h n us) (c1 : ¬ F.w n) (c2 : ¬ Wr s su n) : ZI F h s su (.ref n) us := by
  obtain ⟨ds, e, q⟩ := r
  exact ⟨ds, by unfold zsD; dsimp only; rw [e], q, fun m e => by cases e; exact ⟨c1, c2⟩⟩
theorem lend_zi {p : U × Kd} {l : Nat} {us : List U} {L : List Nat} (e : ER F h s su) (r : KR F l h s su d p.1 p.2) (q : lendV p su = .ok (us, L) su1) : ZI F h s su1 d us := by
  obtain ⟨u, k⟩ := p
  cases k with
  | view i =>
    rw [lend_view] at q
    split at q
    · rename_i us' q2
      cases q
      obtain ⟨a, b⟩ := r
      obtain ⟨d', a', n, us, rfl, c, hb, hp, r⟩ := e.slot i _ _ q2
      rw [a] at a'; cases a'; cases c
      refine zi_lr (by rw [flip_xx (.inl rfl) (.inr rfl) q2]; exact r) (fun z => by have := e.wb n z; omega) fun ⟨j, v, a', b'⟩ => ?_
      rcases get_set_some b' with ⟨_, b', _⟩ | ⟨ij, b'⟩
      · cases b'
      · exact ij (e.inj i j n ⟨a, _, .inl q2⟩ ⟨a', v, .inl b'⟩)
    · cases q
  | tmp =>
    rw [lend_tmp] at q
    split at q
    · rename_i us' q2
      cases q
      obtain ⟨n, us, rfl, rfl, _, hb, hp, e2, r⟩ := r
      cases q2
      exact zi_lr (r.less fun m => xx_add) (fun z => by have := e.wb n z; omega) e2.notWr
    · cases q
  | shr =>
    rw [lend_shr] at q
    split at q
    · rename_i us' q2
      cases q
      exact zi_u r q2
    · cases q
  | bor =>
    rw [lend_bor] at q
    split at q
    · rename_i us' q2
      cases q
      rcases r with r | ⟨n, us, rfl, rfl, c1, c2, r⟩
      · exact zi_u r q2
      · cases q2
        exact zi_lr r c1 c2
    · cases q
theorem ZI.lend {us : List U} {L : List Nat} (w : Lends su L su1) (z : ZI F h s su d us) : ZI F h s su1 d us := by
  obtain ⟨ds, e, r, n⟩ := z
  exact ⟨ds, e, by rw [w.xx]; exact r, fun m q => ⟨(n m q).1, fun z => (n m q).2 (w.wr m z)⟩⟩
theorem ZI.later {us : List U} {su' : US} {h' : DH} {s' : DS} (z : ZI F h s su d us) (g : Go F h s su h' s' su') : ∃ ds, zsD h d = some ds ∧ URels (XX F s' su') h' ds us ∧ sameD h d h' := by
  obtain ⟨ds, e, r, n⟩ := z
  refine ⟨ds, e, g.rels r, ?_⟩
  unfold sameD
  split
  · rename_i m
    obtain ⟨c1, c2⟩ := n m rfl
    unfold zsD at e
    dsimp only at e
    split at e
    · rename_i xs q
      rw [q]
      exact g.fr m _ q c1 c2
    · cases e
  · trivial
theorem zip_ok {d d' : D} {us us' : List U} (z : ZI F h s su d us) (z' : ZI F h s su d' us') : ∃ it, zipOf h d d' = some it ∧ ItOk F h s su it (zipU us us') := by
  obtain ⟨ds, e, _⟩ := id z
  obtain ⟨ds', e', _⟩ := id z'
  refine ⟨_, by unfold zipOf; rw [e, e'], fun h' s' su' g er => ?_⟩
  obtain ⟨xs, a, r, sm⟩ := z.later g
  obtain ⟨xs', a', r', sm'⟩ := z'.later g
  rw [e] at a; cases a
  rw [e'] at a'; cases a'
  have it : ∀ j, itemAt (.gen (min ds.length ds'.length) (fun i => .tup [ds.getD i .non, ds'.getD i .non]) fun h' => sameD h d h' ∧ sameD h d' h') j h' = some (if j < min ds.length ds'.length then some (.tup [ds.getD j .non, ds'.getD j .non]) else none) := fun j => by
    simp only [itemAt]
    exact if_pos ⟨sm, sm'⟩
  constructor
  · intro j u hj
    obtain ⟨x, y, hx, hy, rfl⟩ := zipU_at hj
    obtain ⟨a, ha, ra⟩ := r.get hx
    obtain ⟨b, hb, rb⟩ := r'.get hy
    refine ⟨.tup [a, b], ?_, .tup (.cons ra (.cons rb .nil))⟩
    have l1 := lt_of_get ha
    have l2 := lt_of_get hb
    rw [it, if_pos (by omega), List.getD_eq_getElem?_getD, List.getD_eq_getElem?_getD, ha, hb]
    rfl
  · have l1 := r.length
    have l2 := r'.length
    have l3 : (zipU us us').length = min us.length us'.length := by unfold zipU; simp
    rw [it, if_neg (by omega)]
theorem simi_zip {a b : ME} {va vb : VE} (ha : Sim rK a va) (hb : Sim rK b vb) : SimI (iZipM a b) (vZip va vb) := fun F h s su e => by
  have q := ha F h s su e
  unfold vZip iZipM
  cases z : va su with
  | ok p su1 =>
    rw [z] at q
    obtain ⟨d, h1, e1, g1, er1, r1⟩ := q
    have q := hb F h1 s su1 er1
    dsimp only [rg_ok]
    cases z2 : vb su1 with
    | ok p' su2 =>
      rw [z2] at q
      obtain ⟨d', h2, e2, g2, er2, r2⟩ := q
      dsimp only [rg_ok]
      by_cases pd : pend p su2
      · rw [if_pos pd]
        have r1' := KR.laterB er1 r1 g2 pd
        cases z3 : lendV p su2 with
        | ok w su3 =>
          obtain ⟨us, L⟩ := w
          dsimp only [rg_ok]
          have z3' : lendV (p.1, borK p.2) su2 = .ok (us, L) su3 := by rw [lend_borK]; exact z3
          obtain ⟨l1, er3, _⟩ := lend_ok er2 r1' z3'
          have zi1 := lend_zi er2 r1' z3'
          by_cases pd2 : pend p' su3
          · rw [if_pos pd2]
            have r2' := l1.kr r2 pd2
            cases z4 : lendV p' su3 with
            | ok w su4 =>
              obtain ⟨us', L'⟩ := w
              dsimp only [rg_ok]
              obtain ⟨l2, er4, _⟩ := lend_ok er3 r2' z4
              have zi2 := lend_zi er3 r2' z4
              obtain ⟨it, e5, io⟩ := zip_ok (zi1.lend l2) zi2
              refine ⟨it, h2, su2, ?_, g1.trans g2, l1.app l2, er4, io⟩
              rw [e1]
              show (b s h1).bind _ = _
              rw [e2]
              show retI (zipOf h2 d d') h2 = _
              rw [e5]
              rfl
            | exc x su4 => exact absurd z4 lend_noExc
            | no => trivial
          · rw [if_neg pd2]; trivial
        | exc x su3 => exact absurd z3 lend_noExc
        | no => trivial
      · rw [if_neg pd]; trivial
    | exc x su2 =>
      rw [z2] at q
      obtain ⟨x', h2, e2, g2, er2, r2⟩ := q
      refine ⟨x', h2, ?_, g1.trans g2, er2, r2⟩
      rw [e1]
      show (b s h1).bind _ = _
      rw [e2]
      rfl
    | no => trivial
  | exc x su1 =>
    rw [z] at q
    obtain ⟨d, h1, e1, g, er, r⟩ := q
    exact ⟨d, h1, by rw [e1]; rfl, g, er, r⟩
  | no => trivial
end
end
end PyI
-- PvF
/-! PvF: comprehensions on values -/
namespace PyI
noncomputable section
open PySem PySem.Spec L2
def wipeU (su : US) : List Nat → US
  | [] => su
  | v :: vs => (wipeU su vs).set v none
def freeU (su : US) (vs : List Nat) : Bool := vs.all fun v => match su[v]? with
  | some (some (_, .own)) => false
  | some (some (_, .lent)) => false
  | some (some (_, .io)) => false
  | _ => true
def restoreU (su1 su2 : US) : List Nat → US
  | [] => su2
  | v :: vs => (restoreU su1 su2 vs).set v (su1.getD v none)
def okOnly {β : Type} : RG β → RG β
  | .ok b su => .ok b su
  | _ => .no
@[simp] theorem oo_ok {β : Type} {b : β} {su : US} : okOnly (.ok b su) = .ok b su := rfl
@[simp] theorem oo_no {β : Type} : okOnly (.no : RG β) = .no := rfl
def lcV (g : VG) (t : VT) (e : VE) (vs : List Nat) : List U → US → RG (List U)
  | [], su => .ok [] su
  | x :: r, su => match g x su with
    | none => .no
    | some su1 => (okOnly (t su1)).bind fun k su2 => if k then (okOnly (e su2)).bind fun p su3 => (escV p su3).bind fun u su4 => (lcV g t e vs r (wipeU su4 vs)).bind fun us su5 => .ok (u :: us) su5 else lcV g t e vs r (wipeU su2 vs)
def vLc (src : VI) (g : VG) (t : VT) (e : VE) (vs : List Nat) : VE := fun su => (src su).bind fun p su1 => if freeU su1 vs = true ∧ p.1.length < 1000000 then (okOnly (lcV g t e vs p.1 (wipeU su1 vs))).bind fun us su2 => .ok (.lst us, .tmp) (unlends p.2 (restoreU su1 su2 vs)) else .no
section
variable {F : Fm} {h h1 h2 : DH} {s s0 s1 s2 : DS} {su su0 su1 su2 : US} {d : D} {u : U} {vs : List Nat}
theorem wipeU_len : ∀ {vs : List Nat}, (wipeU su vs).length = su.length
  | [] => rfl
  | v :: vs => by unfold wipeU; rw [List.length_set, wipeU_len]
theorem wipeU_in : ∀ {vs : List Nat} {j : Nat}, j ∈ vs → ∀ x, (wipeU su vs)[j]? ≠ some (some x)
  | v :: vs, j, hj, x, q => by
    unfold wipeU at q
    rcases get_set_some q with ⟨_, q, _⟩ | ⟨ne, q⟩
    · cases q
    · exact wipeU_in ((List.mem_cons.mp hj).resolve_left (Ne.symm ne)) x q
theorem wipeU_out : ∀ {vs : List Nat} {j : Nat}, j ∉ vs → (wipeU su vs)[j]? = su[j]?
  | [], j, _ => rfl
  | v :: vs, j, hj => by
    unfold wipeU
    rw [get_set, if_neg (fun z => hj (by rw [z]; exact List.mem_cons_self)), wipeU_out fun z => hj (List.mem_cons_of_mem _ z)]
theorem wipeD_len : ∀ {vs : List Nat}, (wipeD s vs).length = s.length
  | [] => rfl
  | v :: vs => by unfold wipeD; rw [List.length_set, wipeD_len]
theorem wipeD_out : ∀ {vs : List Nat} {j : Nat}, j ∉ vs → (wipeD s vs)[j]? = s[j]?
  | [], j, _ => rfl
  | v :: vs, j, hj => by
    unfold wipeD
    rw [get_set, if_neg (fun z => hj (by rw [z]; exact List.mem_cons_self)), wipeD_out fun z => hj (List.mem_cons_of_mem _ z)]
theorem restore_len : ∀ {vs : List Nat}, (restoreU su1 su2 vs).length = su2.length
  | [] => rfl
  | v :: vs => by unfold restoreU; rw [List.length_set, restore_len]
theorem restore_out : ∀ {vs : List Nat} {j : Nat}, j ∉ vs → (restoreU su1 su2 vs)[j]? = su2[j]?
  | [], j, _ => rfl
  | v :: vs, j, hj => by
    unfold restoreU
    rw [get_set, if_neg (fun z => hj (by rw [z]; exact List.mem_cons_self)), restore_out fun z => hj (List.mem_cons_of_mem _ z)]
theorem restore_in (hl : su1.length = su2.length) : ∀ {vs : List Nat} {j : Nat}, j ∈ vs → (restoreU su1 su2 vs)[j]? = su1[j]?
  | v :: vs, j, hj => by
    unfold restoreU
    rw [get_set]
    split
    · rename_i e
      subst e
      rw [restore_len]
      split
      · rename_i l
        rw [List.getD_eq_getElem?_getD]
        rw [List.getElem?_eq_getElem (by omega)]
        rfl
      · rename_i l
        rw [List.getElem?_eq_none (by omega)]
    · rename_i ne
      exact restore_in hl ((List.mem_cons.mp hj).resolve_left (Ne.symm ne))
theorem wipe_er (e : ER F h s su) (hl : s0.length = s.length) (ho : ∀ j, j ∉ vs → s0[j]? = s[j]?) : ER F h s0 (wipeU su vs) ∧ Go F h s su h s0 (wipeU su vs) := by
  have out : ∀ {j : Nat} {x : U × Fl}, (wipeU su vs)[j]? = some (some x) → su[j]? = some (some x) ∧ j ∉ vs := fun {j x} q => by
    by_cases hj : j ∈ vs
    · exact absurd q (wipeU_in hj x)
    · rw [wipeU_out hj] at q; exact ⟨q, hj⟩
  have ex : ∀ j n, Ex s0 (wipeU su vs) j n → Ex s su j n := fun j n ⟨a, v, b⟩ => by
    rcases b with b | b <;>
    · obtain ⟨b, hj⟩ := out b
      rw [ho j hj] at a
      exact ⟨a, v, by first | exact .inl b | exact .inr b⟩
  have ow : ∀ n, Ow s0 (wipeU su vs) n → Ow s su n := fun n ⟨j, q⟩ => ⟨j, ex j n q⟩
  have xx : ∀ n, XX F s0 (wipeU su vs) n → XX F s su n := fun n q => by
    rcases q with q | q | q
    · exact .inl q
    · exact .inr (.inl q)
    · exact .inr (.inr (ow n q))
  refine ⟨⟨by rw [wipeU_len, hl]; exact e.len, fun j v f q => ?_, fun j k n a b => e.inj j k n (ex j n a) (ex k n b), fun j v q => e.io1 j v (out q).1, e.pb, e.wb, e.bl⟩, Nat.le_refl _, fun n o a _ _ => a, fun n q => ?_, fun n q => .inl (ow n q), fun j v n a b => ?_⟩
  · obtain ⟨q, hj⟩ := out q
    obtain ⟨d, a, r⟩ := e.slot j v f q
    exact ⟨d, by rw [ho j hj]; exact a, SlotR.mono rfl rfl (fun _ _ _ z => z) (fun z => z.less xx) (fun _ _ _ z => z.less xx) r⟩
  · obtain ⟨j, v, a, b⟩ := q
    obtain ⟨b, hj⟩ := out b
    rw [ho j hj] at a
    exact .inl ⟨j, v, a, b⟩
  · obtain ⟨a, hj⟩ := out a
    rw [ho j hj] at b
    exact ⟨v, a, b⟩
theorem free_ne (q : freeU su vs = true) {j : Nat} (hj : j ∈ vs) {u : U} {f : Fl} (a : su[j]? = some (some (u, f))) : f = .shr ∨ f = .bor := by
  unfold freeU at q
  rw [List.all_eq_true] at q
  have := q j hj
  rw [a] at this
  cases f with
  | shr => exact .inl rfl
  | bor => exact .inr rfl
  | _ => cases this
theorem restore_er (e1 : ER F h1 s su1) (fr : freeU su1 vs = true) (hl : s0.length = s.length) (ho : ∀ j, j ∉ vs → s0[j]? = s[j]?) (g : Go F h1 s0 (wipeU su1 vs) h2 s0 su2) (e2 : ER F h2 s0 su2) (wi : ∀ j ∈ vs, ∀ x, su2[j]? ≠ some (some x)) :
    Go F h1 s su1 h2 s (restoreU su1 su2 vs) ∧ ER F h2 s (restoreU su1 su2 vs) ∧ XX F s (restoreU su1 su2 vs) = XX F s0 su2 := by
  have len : su1.length = su2.length := by rw [← e1.len, ← e2.len, hl]
  have ex : ∀ j n, Ex s (restoreU su1 su2 vs) j n ↔ (Ex s0 su2 j n ∧ j ∉ vs) := fun j n => by
    by_cases hj : j ∈ vs
    · constructor
      · rintro ⟨a, v, b⟩
        rw [restore_in len hj] at b
        rcases b with b | b <;> (rcases free_ne fr hj b with z | z <;> cases z)
      · exact fun z => absurd hj z.2
    · constructor
      · rintro ⟨a, v, b⟩
        rw [restore_out hj] at b
        exact ⟨⟨by rw [ho j hj]; exact a, v, b⟩, hj⟩
      · rintro ⟨⟨a, v, b⟩, _⟩
        exact ⟨by rw [← ho j hj]; exact a, v, by rw [restore_out hj]; exact b⟩
  have exi : ∀ j n, Ex s0 su2 j n → j ∉ vs := fun j n ⟨a, v, b⟩ hj => by
    rcases b with b | b <;> exact wi j hj _ b
  have ow : ∀ n, Ow s (restoreU su1 su2 vs) n ↔ Ow s0 su2 n := fun n => ⟨fun ⟨j, q⟩ => ⟨j, ((ex j n).mp q).1⟩, fun ⟨j, q⟩ => ⟨j, (ex j n).mpr ⟨q, exi j n q⟩⟩⟩
  have xx : XX F s (restoreU su1 su2 vs) = XX F s0 su2 := by
    funext n
    unfold XX
    rw [propext (ow n)]
  obtain ⟨we, wg⟩ := wipe_er (s0 := s0) (vs := vs) e1 hl ho
  have gg := wg.trans g
  refine ⟨⟨gg.le, gg.fr, fun n q => ?_, fun n q => gg.gx n ((ow n).mp q), fun j v n a b => ?_⟩, ⟨by rw [restore_len, ← len]; exact e1.len, fun j v f q => ?_, fun j k n a b => e2.inj j k n ((ex j n).mp a).1 ((ex k n).mp b).1, fun j v q => ?_, e2.pb, e2.wb, e2.bl⟩, xx⟩
  · obtain ⟨j, v, a, b⟩ := q
    by_cases hj : j ∈ vs
    · rw [restore_in len hj] at b
      rcases free_ne fr hj b with z | z <;> cases z
    · rw [restore_out hj] at b
      exact gg.gw n ⟨j, v, by rw [ho j hj]; exact a, b⟩
  · by_cases hj : j ∈ vs
    · rw [restore_in len hj] at a
      rcases free_ne fr hj a with z | z <;> cases z
    · rw [restore_out hj] at a
      exact gg.lt j v n a (by rw [ho j hj]; exact b)
  · rw [xx]
    by_cases hj : j ∈ vs
    · rw [restore_in len hj] at q
      obtain ⟨d, a, r⟩ := e1.slot j v f q
      refine ⟨d, a, ?_⟩
      rcases free_ne fr hj q with rfl | rfl
      · exact gg.rel r
      · rcases r with r | ⟨n, us, b, c, hb, hw, r⟩
        · exact .inl (gg.rel r)
        · refine .inr ⟨n, us, b, c, hb, hw, gg.lr hw (fun ⟨k, w, a', b'⟩ => ?_) r⟩
          obtain ⟨d', a2, n', us', c', _, hb', _⟩ := e1.slot k w _ b'
          rw [a'] at a2; cases a2; cases c'
          omega
    · rw [restore_out hj] at q
      obtain ⟨d, a, r⟩ := e2.slot j v f q
      exact ⟨d, by rw [← ho j hj]; exact a, r⟩
  · by_cases hj : j ∈ vs
    · rw [restore_in len hj] at q
      rcases free_ne fr hj q with z | z <;> cases z
    · rw [restore_out hj] at q
      exact e2.io1 j v q
def KeepG (vs : List Nat) (g : MG) : Prop := ∀ d s h s' h', g d s h = some (s', h') → s'.length = s.length ∧ ∀ j, j ∉ vs → s'[j]? = s[j]?
theorem keep_nm {i : Nat} (q : i ∈ vs) : KeepG vs (gNm i) := fun d s h s' h' e => by
  cases e
  exact ⟨by simp, fun j hj => by rw [get_set, if_neg (fun z => hj (by rw [← z]; exact q))]⟩
inductive KeepGs (vs : List Nat) : List MG → Prop
  | nil : KeepGs vs []
  | cons {g : MG} {l : List MG} : KeepG vs g → KeepGs vs l → KeepGs vs (g :: l)
theorem keep_gs : ∀ {l : List MG}, KeepGs vs l → ∀ {ds : List D} {s : DS} {h : DH} {s' : DS} {h' : DH}, gsM l ds s h = some (s', h') → s'.length = s.length ∧ ∀ j, j ∉ vs → s'[j]? = s[j]?
  | _, .nil, [], _, _, _, _, e => by cases e; exact ⟨rfl, fun _ _ => rfl⟩
  | _, .nil, _ :: _, _, _, _, _, e => by cases e
  | _, .cons _ _, [], _, _, _, _, e => by cases e
  | _, .cons a b, _ :: _, s, h, _, _, e => by
    obtain ⟨q, e1, e2⟩ := bind_inv (show ((_ : MG) _ s h).bind _ = some _ from e)
    obtain ⟨a1, a2⟩ := a _ _ _ _ _ e1
    obtain ⟨b1, b2⟩ := keep_gs b e2
    exact ⟨b1.trans a1, fun j hj => (b2 j hj).trans (a2 j hj)⟩
theorem keep_tp {l : List MG} (q : KeepGs vs l) : KeepG vs (gTp l) := fun d s h s' h' e => by
  unfold gTp at e
  split at e
  · split at e
    · exact keep_gs q e
    · cases e
  · split at e
    · split at e
      · exact keep_gs q e
      · cases e
    · cases e
  · cases e
theorem lc_go {it : IS} {items : List U} {g : MG} {vg : VG} {t : MT} {vt : VT} {e : ME} {ve : VE} (hg : SimG g vg) (hk : KeepG vs g) (ht : Sim (rEq Bool) t vt) (hE : Sim rK e ve) (i : ItOk F h1 s1 su1 it items) :
    ∀ (rest : List U) (j m : Nat) (acc : List D) (accU : List U) (h : DH) (su : US) (us : List U) (su' : US), j + rest.length = items.length → items.drop j = rest → rest.length < m → items.length < 1000000 → acc.length ≤ j → Go F h1 s1 su1 h s0 su → ER F h s0 su → URels (XX F s0 su) h acc accU → (∀ j ∈ vs, ∀ x, su[j]? ≠ some (some x)) →
      lcV vg vt ve vs rest su = .ok us su' → ∃ ds h', lcGo it g t e s0 m j acc h = .ok ds h' ∧ Go F h s0 su h' s0 su' ∧ ER F h' s0 su' ∧ URels (XX F s0 su') h' ds (accU ++ us) ∧ ∀ j ∈ vs, ∀ x, su'[j]? ≠ some (some x)
  | _, _, 0, _, _, _, _, _, _, _, _, hm, _, _, _, _, _, _, _ => by omega
  | [], j, m + 1, acc, accU, h, su, us, su', hj, hd, hm, hi, ha, g0, er, ra, wi, q => by
    cases q
    obtain ⟨_, i2⟩ := i h s0 su g0 er
    refine ⟨acc, h, ?_, Go.refl, er, by rw [List.append_nil]; exact ra, wi⟩
    unfold lcGo
    rw [show j = items.length by simpa using hj, i2]
  | x :: r, j, m + 1, acc, accU, h, su, us, su', hj, hd, hm, hi, ha, g0, er, ra, wi, q => by
    obtain ⟨i1, _⟩ := i h s0 su g0 er
    have hx : items[j]? = some x := by
      have := congrArg List.head? hd
      rw [List.head?_drop] at this
      exact this
    have hd' : items.drop (j + 1) = r := by rw [← List.drop_drop, hd]; rfl
    have hj' : j + 1 + r.length = items.length := by simp at hj; omega
    obtain ⟨d, e1, r1⟩ := i1 j x hx
    unfold lcV at q
    unfold lcGo
    rw [e1]
    dsimp only
    cases z : vg x su with
    | none => rw [z] at q; cases q
    | some su2 =>
      rw [z] at q
      dsimp only at q
      obtain ⟨s2, h2, e2, g2, er2⟩ := hg F h s0 su d x er r1 su2 z
      obtain ⟨kl, ko⟩ := hk _ _ _ _ _ e2
      have ko' : ∀ j, j ∉ vs → s0[j]? = s2[j]? := fun j hj => (ko j hj).symm
      rw [e2]
      dsimp only
      have qt := ht F h2 s2 su2 er2
      cases zt : vt su2 with
      | exc _ _ => rw [zt] at q; cases q
      | no => rw [zt] at q; cases q
      | ok k su3 =>
        rw [zt] at q qt
        obtain ⟨k', h3, e3, g3, er3, rk⟩ := qt
        cases rk
        rw [oo_ok, rg_ok] at q
        rw [e3]
        cases k with
        | false =>
          rw [if_neg Bool.false_ne_true] at q
          dsimp only
          obtain ⟨er4, g4⟩ := wipe_er (s0 := s0) (vs := vs) er3 kl.symm ko'
          have gg := (g2.trans g3).trans g4
          obtain ⟨ds, h', e5, g5, er5, r5, w5⟩ := lc_go hg hk ht hE i r (j + 1) m acc accU h3 _ us su' hj' hd' (by simp at hm; omega) hi (by omega) (g0.trans gg) er4 (gg.rels ra) (fun j hj x => wipeU_in hj x) q
          exact ⟨ds, h', e5, gg.trans g5, er5, r5, w5⟩
        | true =>
          rw [if_pos rfl] at q
          dsimp only
          have qe := hE F h3 s2 su3 er3
          cases ze : ve su3 with
          | exc _ _ => rw [ze] at q; cases q
          | no => rw [ze] at q; cases q
          | ok p su4 =>
            rw [ze] at q qe
            obtain ⟨y, h4, e4, g4, er4, ry⟩ := qe
            rw [oo_ok, rg_ok] at q
            rw [e4]
            dsimp only
            rw [if_pos (by omega)]
            have qx := esc_ok er4 ry
            cases zx : escV p su4 with
            | exc _ _ => rw [zx] at q; cases q
            | no => rw [zx] at q; cases q
            | ok u su5 =>
              rw [zx] at q qx
              obtain ⟨y', h5, e5, g5, er5, ru⟩ := qx
              cases e5
              rw [rg_ok] at q
              obtain ⟨er6, g6⟩ := wipe_er (s0 := s0) (vs := vs) er5 kl.symm ko'
              have gg := (((g2.trans g3).trans g4).trans g5).trans g6
              cases zr : lcV vg vt ve vs r (wipeU su5 vs) with
              | exc _ _ => rw [zr] at q; cases q
              | no => rw [zr] at q; cases q
              | ok us2 su6 =>
                rw [zr] at q
                cases q
                obtain ⟨ds, h', e7, g7, er7, r7, w7⟩ := lc_go hg hk ht hE i r (j + 1) m (acc ++ [y]) (accU ++ [u]) h4 _ us2 su' hj' hd' (by simp at hm; omega) hi (by simp; omega) (g0.trans gg) er6 ((gg.rels ra).append (.cons (g6.rel ru) .nil)) (fun j hj x => wipeU_in hj x) zr
                exact ⟨ds, h', e7, gg.trans g7, er7, by rw [List.append_assoc] at r7; exact r7, w7⟩
theorem sim_lc {src : MI} {vsrc : VI} {g : MG} {vg : VG} {t : MT} {vt : VT} {e : ME} {ve : VE} (hs : SimI src vsrc) (hg : SimG g vg) (hk : KeepG vs g) (ht : Sim (rEq Bool) t vt) (hE : Sim rK e ve) : Sim rK (mLc src g t e vs) (vLc vsrc vg vt ve vs) := fun F h s su er => by
  have q := hs F h s su er
  unfold mLc vLc
  cases z : vsrc su with
  | ok p su1 =>
    rw [z] at q
    obtain ⟨it, h1, su0, e1, g1, l, er1, i⟩ := q
    rw [e1]
    rw [rg_ok, bind_ok]
    split
    · rename_i c
      obtain ⟨fr, hn⟩ := c
      have hl : (wipeD s vs).length = s.length := wipeD_len
      have ho : ∀ j, j ∉ vs → (wipeD s vs)[j]? = s[j]? := fun j hj => wipeD_out hj
      obtain ⟨erw, gw⟩ := wipe_er (s0 := wipeD s vs) (vs := vs) er1 hl ho
      cases zl : lcV vg vt ve vs p.1 (wipeU su1 vs) with
      | exc _ _ => trivial
      | no => trivial
      | ok us su2 =>
        obtain ⟨ds, h2, e2, g2, er2, r2, w2⟩ := lc_go hg hk ht hE i p.1 0 fuel [] [] h1 _ us su2 (by simp) rfl (by rw [fuel_eq]; exact hn) hn (Nat.le_refl _) gw erw .nil (fun j hj x => wipeU_in hj x) zl
        rw [e2, oo_ok, rg_ok, bind_ok]
        obtain ⟨g3, er3, xx⟩ := restore_er er1 fr hl ho g2 er2 w2
        obtain ⟨g4, er4⟩ := unlends_ok l g3 er3
        refine ⟨_, _, rfl, (g1.trans g4).trans Go.app, er4.app, ?_⟩
        exact KR.new er4 (Nat.le_trans g1.le g4.le) (by rw [unlends_xx, xx]; simpa using r2)
    · trivial
  | exc x su1 =>
    rw [z] at q
    obtain ⟨d, h1, e1, g1, er, r⟩ := q
    rw [e1]
    exact ⟨d, h1, rfl, g1, er, r⟩
  | no => trivial
end
end
end PyI
-- PvG
/-! PvG: defs and calls on values -/
namespace PyI
noncomputable section
open PySem PySem.Spec L2
inductive RF where
  | ok (u : U) (fr : Bool) (out : U) | exc (x : XU) (out : U) | no
abbrev VF := List U → RF
def RFr (X : Nat → Prop) (h h' : DH) (d : D) (u : U) : Bool → Prop
  | true => ∃ n us, d = .ref n ∧ u = .lst us ∧ h.length ≤ n ∧ n < h'.length ∧ LR (fun m => X m ∨ m = n) h' n us
  | false => URel X h' d u
/-- a def that changes nothing that stood -/
def FSim (F : List D → DH → Res D) (v : VF) : Prop := ∀ (X : Nat → Prop) (h : DH) (ds : List D) (us : List U), (∀ m, X m → m < h.length) → TRs X h ds us → match v us with
  | .ok u fr _ => ∃ d h', F ds h = .ok d h' ∧ h.length ≤ h'.length ∧ (∀ (m : Nat) (o : O), h[m]? = some o → h'[m]? = some o) ∧ RFr X h h' d u fr
  | .exc x _ => ∃ e h', F ds h = .exc e h' ∧ h.length ≤ h'.length ∧ (∀ (m : Nat) (o : O), h[m]? = some o → h'[m]? = some o) ∧ XR X h' e x
  | .no => True
/-- a def that changes its first list -/
def FSim1 (F : List D → DH → Res D) (v : VF) : Prop := ∀ (X : Nat → Prop) (h : DH) (n : Nat) (us0 : List U) (ds : List D) (us : List U), (∀ m, X m → m < h.length) → X n → LR X h n us0 → TRs X h ds us → (∀ d ∈ ds, d ≠ .ref n) → match v (.lst us0 :: us) with
  | .ok u fr out => ∃ d h', F (.ref n :: ds) h = .ok d h' ∧ h.length ≤ h'.length ∧ (∀ (m : Nat) (o : O), m ≠ n → h[m]? = some o → h'[m]? = some o) ∧ (∃ us', out = .lst us' ∧ LR X h' n us' ∧ (fr = true → ∀ k, d = .ref k → LR (fun m => X m ∨ m = k) h' n us')) ∧ RFr X h h' d u fr
  | .exc x out => ∃ e h', F (.ref n :: ds) h = .exc e h' ∧ h.length ≤ h'.length ∧ (∀ (m : Nat) (o : O), m ≠ n → h[m]? = some o → h'[m]? = some o) ∧ (∃ us', out = .lst us' ∧ LR X h' n us') ∧ XR X h' e x
  | .no => True
def runV (v : VS) (np N : Nat) : VF := fun us => if us.length = np then match v (us.map (fun u => some (u, Fl.bor)) ++ List.replicate (N - us.length) none) with
  | .nx _ => .ok .non false .non
  | .rt u fr _ => .ok u fr .non
  | .ex x _ => .exc x .non
  | _ => .no else .no
def out1 (su : US) (k : U → RF) : RF := match su[(0 : Nat)]? with
  | some (some (u, .io)) => k u
  | _ => .no
theorem out1_cases (su : US) (k : U → RF) : out1 su k = .no ∨ ∃ u, su[(0 : Nat)]? = some (some (u, Fl.io)) ∧ out1 su k = k u := by
  unfold out1
  split
  · rename_i u q; exact .inr ⟨u, q, rfl⟩
  · exact .inl rfl
def runV1 (v : VS) (np N : Nat) : VF := fun us => match us with
  | u0 :: us => if us.length + 1 = np then match v (some (u0, Fl.io) :: (us.map (fun u => some (u, Fl.bor)) ++ List.replicate (N - (us.length + 1)) none)) with
    | .nx su => out1 su fun o => .ok .non false o
    | .rt u fr su => out1 su fun o => .ok u fr o
    | .ex x su => out1 su fun o => .exc x o
    | _ => .no else .no
  | [] => .no
section
variable {X : Nat → Prop} {h h' : DH} {ds : List D} {us : List U}
theorem TRs.length : ∀ {ds : List D} {us : List U}, TRs X h ds us → ds.length = us.length
  | _, _, .nil => rfl
  | _, _, .cons _ r => by simp [TRs.length r]
theorem TRs.get : ∀ {ds : List D} {us : List U} {i : Nat} {u : U}, TRs X h ds us → us[i]? = some u → ∃ d, ds[i]? = some d ∧ TR X h d u
  | _, _, _, _, .nil, e => by simp at e
  | _, _, 0, _, .cons h _, e => by simp at e; subst e; exact ⟨_, rfl, h⟩
  | _, _, i + 1, u, .cons _ r, e => by
    obtain ⟨v, h1, h2⟩ := TRs.get (i := i) (u := u) r (by simpa using e)
    exact ⟨v, by simpa using h1, h2⟩
theorem init_get {α β : Type} {f : α → β} {us : List α} {n i : Nat} {x : β} (q : (us.map (fun u => some (f u)) ++ List.replicate n none)[i]? = some (some x)) : ∃ u, us[i]? = some u ∧ x = f u := by
  by_cases hi : i < us.length
  · rw [List.getElem?_append_left (by simpa using hi), List.getElem?_map] at q
    obtain ⟨u, e, z⟩ := map_inv q
    exact ⟨u, e, (Option.some.inj z).symm⟩
  · rw [List.getElem?_append_right (by simpa using hi), List.getElem?_replicate] at q
    split at q
    · cases q
    · cases q
theorem init_put {α β : Type} {f : α → β} {us : List α} {n i : Nat} {u : α} (q : us[i]? = some u) : (us.map (fun u => some (f u)) ++ List.replicate n none)[i]? = some (some (f u)) := by
  have hi := lt_of_get q
  rw [List.getElem?_append_left (by simpa using hi), List.getElem?_map, q]
  rfl
theorem urel_xx {F : Fm} {s : DS} {su : US} {d : D} {u : U} (hX : F.P = X) (r : URel (XX F s su) h d u) : URel X h d u := r.less fun m z => .inl (by rw [hX]; exact z)
/-- the slots at the beginning of a def that changes nothing -/
theorem init_er (hX : ∀ m, X m → m < h.length) (r : TRs X h ds us) (n : Nat) : ER ⟨X, fun _ => False, h.length⟩ h (ds.map some ++ List.replicate n none) (us.map (fun u => some (u, Fl.bor)) ++ List.replicate n none) := by
  have ex : ∀ i m, ¬ Ex (ds.map some ++ List.replicate n none) (us.map (fun u => some (u, Fl.bor)) ++ List.replicate n none) i m := fun i m ⟨_, v, b⟩ => by
    rcases b with b | b <;>
    · obtain ⟨u, _, z⟩ := init_get (f := fun u => (u, Fl.bor)) b
      cases z
  have xx : ∀ m, XX ⟨X, fun _ => False, h.length⟩ (ds.map some ++ List.replicate n none) (us.map (fun u => some (u, Fl.bor)) ++ List.replicate n none) m → X m := fun m z => by
    rcases z with z | z | ⟨i, z⟩
    · exact z
    · exact z.elim
    · exact absurd z (ex i m)
  refine ⟨by simp [r.length], fun i u f q => ?_, fun i j m a _ => absurd a (ex i m), fun i u q => ?_, hX, fun _ z => z.elim, Nat.le_refl _⟩
  · obtain ⟨v, e, z⟩ := init_get (f := fun u => (u, Fl.bor)) q
    cases z
    obtain ⟨d, e2, t⟩ := r.get e
    refine ⟨d, init_put (f := id) e2, ?_⟩
    rcases t with t | ⟨k, us', rfl, rfl, ds', e3, t⟩
    · exact .inl (t.less xx)
    · exact .inr ⟨k, us', rfl, rfl, lt_of_get e3, fun z => z, ds', e3, t.less xx⟩
  · obtain ⟨v, e, z⟩ := init_get (f := fun u => (u, Fl.bor)) q
    cases z
theorem init_wr (n : Nat) (m : Nat) : ¬ Wr (ds.map some ++ List.replicate n none) (us.map (fun u => some (u, Fl.bor)) ++ List.replicate n none) m := fun ⟨i, v, _, b⟩ => by
  obtain ⟨u, _, z⟩ := init_get (f := fun u => (u, Fl.bor)) b
  cases z
theorem RR.out {F : Fm} {s : DS} {su : US} {d : D} {u : U} {fr : Bool} (hX : F.P = X) (hb : F.b = h.length) (r : RR F h' s su d u fr) : RFr X h h' d u fr := by
  cases fr with
  | true =>
    obtain ⟨n, us, a, b, c, _, ⟨ds, e, r⟩, _⟩ := r
    refine ⟨n, us, a, b, by rw [← hb]; exact c, lt_of_get e, ds, e, r.less fun m z => ?_⟩
    rcases z with z | z
    · exact .inl (by rw [hX]; exact z)
    · exact .inr (.inr z)
  | false => exact urel_xx hX r
theorem XR.less {F : Fm} {s : DS} {su : US} {e : Exn} {x : XU} (hX : F.P = X) (r : XR (XX F s su) h e x) : XR X h e x := by
  refine ⟨r.1, ?_⟩
  have := r.2
  generalize e.fs = a at this
  generalize x.fs = b at this
  induction this with
  | nil => exact .nil
  | cons r _ ih => exact .cons (urel_xx hX r) ih
theorem run_nx {m : MS} {N : Nat} {ds : List D} {s : DS} (e : m (ds.map some ++ List.replicate (N - ds.length) none) h = .nx s h') : runB m N ds h = .ok .non h' := by unfold runB; rw [e]
theorem run_rt {m : MS} {N : Nat} {ds : List D} {d : D} (e : m (ds.map some ++ List.replicate (N - ds.length) none) h = .rt d h') : runB m N ds h = .ok d h' := by unfold runB; rw [e]
theorem run_ex {m : MS} {N : Nat} {ds : List D} {s : DS} {x : Exn} (e : m (ds.map some ++ List.replicate (N - ds.length) none) h = .ex x s h') : runB m N ds h = .exc x h' := by unfold runB; rw [e]
theorem fsim_run {G : List D → DH → Res D} {m : MS} {v : VS} (q : SimS m v) {np N : Nat} (hG : ∀ ds h, ds.length = np → G ds h = runB m N ds h) : FSim G (runV v np N) := fun X h ds us hX r => by
  unfold runV
  by_cases hl : us.length = np
  · rw [if_pos hl]
    have hG := hG ds h (by rw [r.length]; exact hl)
    have e := init_er hX r (N - ds.length)
    have o := q _ h _ _ e
    rw [← r.length]
    generalize hsu : us.map (fun u => some (u, Fl.bor)) ++ List.replicate (N - ds.length) none = su0 at o e
    have old : ∀ {h1 : DH} {s1 : DS} {su1 : US}, Go ⟨X, fun _ => False, h.length⟩ h (ds.map some ++ List.replicate (N - ds.length) none) su0 h1 s1 su1 → ∀ (m : Nat) (o : O), h[m]? = some o → h1[m]? = some o := fun g m o e => g.fr m o e (fun z => z) (by rw [← hsu]; exact init_wr _ m)
    cases z : v su0 with
    | nx su => rw [z] at o; obtain ⟨s1, h1, e1, g, er⟩ := o; exact ⟨_, h1, hG.trans (run_nx e1), g.le, old g, .non⟩
    | rt u fr su => rw [z] at o; obtain ⟨d, s1, h1, e1, g, er, rr⟩ := o; exact ⟨d, h1, hG.trans (run_rt e1), g.le, old g, rr.out rfl rfl⟩
    | ex x su => rw [z] at o; obtain ⟨d, s1, h1, e1, g, er, rr⟩ := o; exact ⟨d, h1, hG.trans (run_ex e1), g.le, old g, rr.less rfl⟩
    | bk su => trivial
    | ct su => trivial
    | no => trivial
  · rw [if_neg hl]; trivial
theorem fs_run {G : List (Str × GV)} {B : List Str} {T : List DefI} {n i : Nat} {d : DefI} {b : MS} (hT : T[i]? = some d) (e : bodyM G B (Fs G B T n) d = b) : ∀ ds h, ds.length = d.ps.length → Fs G B T (n + 1) i ds h = runB b d.N.length ds h := fun ds h hl => by
  show (match T[i]? with | some d => if ds.length = d.ps.length then runB (bodyM G B (Fs G B T n) d) d.N.length ds h else .no | none => .no) = _
  rw [hT]
  dsimp only
  rw [if_pos hl, e]
theorem fsim_fs {G : List (Str × GV)} {B : List Str} {T : List DefI} {n i : Nat} {d : DefI} {b : MS} {v : VS} (hT : T[i]? = some d) (e : bodyM G B (Fs G B T n) d = b) (q : SimS b v) : FSim (Fs G B T (n + 1) i) (runV v d.ps.length d.N.length) := fsim_run q (fs_run hT e)
/-! ### a def that changes its first list -/
theorem init1_get {us : List U} {n i : Nat} {u0 : U} {x : U × Fl} (q : (some (u0, Fl.io) :: (us.map (fun u => some (u, Fl.bor)) ++ List.replicate n none))[i]? = some (some x)) : (i = 0 ∧ x = (u0, .io)) ∨ ∃ j u, i = j + 1 ∧ us[j]? = some u ∧ x = (u, .bor) := by
  cases i with
  | zero => exact .inl ⟨rfl, by simpa using q.symm⟩
  | succ j =>
    rw [List.getElem?_cons_succ] at q
    obtain ⟨u, e, z⟩ := init_get (f := fun u => (u, Fl.bor)) q
    exact .inr ⟨j, u, rfl, e, z⟩
theorem init1_er {n0 : Nat} {us0 : List U} (hX : ∀ m, X m → m < h.length) (hn : X n0) (r0 : LR X h n0 us0) (r : TRs X h ds us) (ne : ∀ d ∈ ds, d ≠ .ref n0) (n : Nat) :
    ER ⟨X, fun m => m = n0, h.length⟩ h (some (.ref n0) :: (ds.map some ++ List.replicate n none)) (some (.lst us0, Fl.io) :: (us.map (fun u => some (u, Fl.bor)) ++ List.replicate n none)) := by
  have ex : ∀ i m, ¬ Ex (some (.ref n0) :: (ds.map some ++ List.replicate n none)) (some (.lst us0, Fl.io) :: (us.map (fun u => some (u, Fl.bor)) ++ List.replicate n none)) i m := fun i m ⟨_, v, b⟩ => by
    rcases b with b | b <;> (rcases init1_get b with ⟨_, z⟩ | ⟨_, _, _, _, z⟩ <;> cases z)
  have xx : ∀ m, XX ⟨X, fun m => m = n0, h.length⟩ (some (.ref n0) :: (ds.map some ++ List.replicate n none)) (some (.lst us0, Fl.io) :: (us.map (fun u => some (u, Fl.bor)) ++ List.replicate n none)) m → X m := fun m z => by
    rcases z with z | z | ⟨i, z⟩
    · exact z
    · have z : m = n0 := z
      subst z; exact hn
    · exact absurd z (ex i m)
  refine ⟨by simp [r.length], fun i u f q => ?_, fun i j m a _ => absurd a (ex i m), fun i u q => ?_, hX, fun m z => ?_, Nat.le_refl _⟩
  · rcases init1_get q with ⟨rfl, z⟩ | ⟨j, v, rfl, e, z⟩
    · cases z
      exact ⟨.ref n0, rfl, n0, us0, rfl, rfl, rfl, r0.less xx⟩
    · cases z
      obtain ⟨d, e2, t⟩ := r.get e
      refine ⟨d, by rw [List.getElem?_cons_succ]; exact init_put (f := id) e2, ?_⟩
      rcases t with t | ⟨k, us', rfl, rfl, ds', e3, t⟩
      · exact .inl (t.less xx)
      · refine .inr ⟨k, us', rfl, rfl, lt_of_get e3, fun z => ?_, ds', e3, t.less xx⟩
        have z : k = n0 := z
        subst z
        exact ne _ (List.mem_of_getElem? e2) rfl
  · rcases init1_get q with ⟨rfl, z⟩ | ⟨j, v, rfl, e, z⟩
    · rfl
    · cases z
  · have z : m = n0 := z
    subst z; exact hX _ hn
theorem fsim1_run {G : List D → DH → Res D} {m : MS} {v : VS} (q : SimS m v) {np N : Nat} (hG : ∀ ds h, ds.length = np → G ds h = runB m N ds h) : FSim1 G (runV1 v np N) := fun X h n0 us0 ds us hX hn r0 r ne => by
  unfold runV1
  dsimp only
  by_cases hl : us.length + 1 = np
  · rw [if_pos hl]
    have hG := hG (.ref n0 :: ds) h (by rw [List.length_cons, r.length]; exact hl)
    have e := init1_er hX hn r0 r ne (N - (us.length + 1))
    have o := q _ h _ _ e
    have es : (D.ref n0 :: ds).map some ++ List.replicate (N - (D.ref n0 :: ds).length) none = some (.ref n0) :: (ds.map some ++ List.replicate (N - (us.length + 1)) none) := by
      rw [List.map_cons, List.cons_append, List.length_cons, r.length]
    generalize hsu : some (U.lst us0, Fl.io) :: (us.map (fun u => some (u, Fl.bor)) ++ List.replicate (N - (us.length + 1)) none) = su0 at o e
    have old : ∀ {h1 : DH} {s1 : DS} {su1 : US}, Go ⟨X, fun m => m = n0, h.length⟩ h (some (.ref n0) :: (ds.map some ++ List.replicate (N - (us.length + 1)) none)) su0 h1 s1 su1 → ∀ (m : Nat) (o : O), m ≠ n0 → h[m]? = some o → h1[m]? = some o := fun g m o ne e => g.fr m o e ne (by
      rw [← hsu]
      rintro ⟨i, v, _, b⟩
      rcases init1_get b with ⟨_, z⟩ | ⟨_, _, _, _, z⟩ <;> cases z)
    have outs : ∀ {h1 : DH} {s1 : DS} {su1 : US} {o : U}, ER ⟨X, fun m => m = n0, h.length⟩ h1 s1 su1 → su1[0]? = some (some (o, Fl.io)) → ∃ us', o = .lst us' ∧ LR X h1 n0 us' := fun er z => by
      obtain ⟨d, _, n, us, _, rfl, hw, r⟩ := er.slot 0 _ _ z
      have hw : n = n0 := hw
      subst hw
      exact ⟨us, rfl, r.less fun m z => .inl z⟩
    cases z : v su0 with
    | nx su =>
      rw [z] at o; obtain ⟨s1, h1, e1, g, er⟩ := o
      rw [← es] at e1
      dsimp only
      rcases out1_cases su _ with w | ⟨u', zz, w⟩
      · rw [w]; trivial
      · rw [w]
        obtain ⟨us', o1, o2⟩ := outs er zz
        exact ⟨_, h1, hG.trans (run_nx e1), g.le, old g, ⟨us', o1, o2, fun z => by cases z⟩, URel.non⟩
    | rt u fr su =>
      rw [z] at o; obtain ⟨d, s1, h1, e1, g, er, rr⟩ := o
      rw [← es] at e1
      dsimp only
      rcases out1_cases su _ with w | ⟨u', zz, w⟩
      · rw [w]; trivial
      · rw [w]
        obtain ⟨us', o1, o2⟩ := outs er zz
        refine ⟨d, h1, hG.trans (run_rt e1), g.le, old g, ⟨us', o1, o2, fun z k dk => ?_⟩, rr.out rfl rfl⟩
        subst z
        obtain ⟨n2, us2, c1, _, _, _, _, kk⟩ := rr
        subst dk
        cases c1
        obtain ⟨d', a', n', us3, c, _, hw, _⟩ := er.slot 0 _ _ zz
        have hw : n' = n0 := hw
        subst hw
        subst c
        subst o1
        refine (kk 0 us' n' a' zz).less fun m z => ?_
        rcases z with z | z
        · exact .inl z
        · exact .inr (.inr z)
    | ex x su =>
      rw [z] at o; obtain ⟨d, s1, h1, e1, g, er, rr⟩ := o
      rw [← es] at e1
      dsimp only
      rcases out1_cases su _ with w | ⟨u', zz, w⟩
      · rw [w]; trivial
      · rw [w]
        exact ⟨d, h1, hG.trans (run_ex e1), g.le, old g, outs er zz, rr.less rfl⟩
    | bk su => trivial
    | ct su => trivial
    | no => trivial
  · rw [if_neg hl]; trivial
theorem fsim1_fs {G : List (Str × GV)} {B : List Str} {T : List DefI} {n i : Nat} {d : DefI} {b : MS} {v : VS} (hT : T[i]? = some d) (e : bodyM G B (Fs G B T n) d = b) (q : SimS b v) : FSim1 (Fs G B T (n + 1) i) (runV1 v d.ps.length d.N.length) := fsim1_run q (fs_run hT e)
/-- a law is said when its values say True -/
theorem says_V {F : List D → DH → Res D} {v : VF} {n : Nat} (q : FSim F v) (a : ∀ ns : List Int, ns.length ≤ n → ∃ o, v [.scr ns] = .ok (.bl true) false o) : Says F n := fun ns hn => by
  obtain ⟨o, e⟩ := a ns hn
  have := q (fun _ => False) [] [.scr ns] [.scr ns] (fun _ z => z.elim) (.cons (.inl (.scr ns)) .nil)
  rw [e] at this
  obtain ⟨d, h', e1, _, _, r⟩ := this
  cases r
  exact ⟨h', e1⟩
end
/-! ### calls -/
def callV (r : RF) (su : US) : RG (U × Kd) := match r with
  | .ok u true _ => .ok (u, .tmp) su
  | .ok u false _ => .ok (u, .shr) su
  | .exc x _ => .exc x su
  | .no => .no
@[simp] theorem call_t {u o : U} {su : US} : callV (.ok u true o) su = .ok (u, .tmp) su := rfl
@[simp] theorem call_f {u o : U} {su : US} : callV (.ok u false o) su = .ok (u, .shr) su := rfl
@[simp] theorem call_x {x : XU} {o : U} {su : US} : callV (.exc x o) su = .exc x su := rfl
@[simp] theorem call_n {su : US} : callV .no su = .no := rfl
def vCall (v : VF) (pm : List Nat) (l : List VE) : VE := fun su => (vArgs l su).bind fun us su1 => match pickL pm us with
  | some ys => callV (v ys) su1
  | none => .no
def putO (i : Nat) (o : U) (su : US) (k : US → RG (U × Kd)) : RG (U × Kd) := match su[i]? with
  | some (some (_, .own)) => k (su.set i (some (o, .own)))
  | some (some (_, .io)) => k (su.set i (some (o, .io)))
  | _ => .no
def callV1 (r : RF) (i : Nat) (su : US) : RG (U × Kd) := match r with
  | .ok u true o => putO i o su fun su => .ok (u, .tmp) su
  | .ok u false o => putO i o su fun su => .ok (u, .shr) su
  | .exc x o => putO i o su fun su => .exc x su
  | .no => .no
def isView (i : Nat) : Kd → Bool
  | .view j => decide (j = i)
  | _ => false
open Classical in
def vArgs1 (i : Nat) : List VE → VA
  | [] => fun su => .ok [] su
  | a :: r => fun su => (a su).bind fun p su1 => (vArgs1 i r su1).bind fun us su2 => if pend p su2 ∧ isView i p.2 = false then .ok (p.1 :: us) su2 else .no
/-- the first argument is a list in a slot, and it changes -/
def call1V (v : VF) (i : Nat) (us : List U) (su1 : US) : RG (U × Kd) := match su1[i]? with
  | some (some (.lst u0, .own)) => callV1 (v (.lst u0 :: us)) i su1
  | some (some (.lst u0, .io)) => callV1 (v (.lst u0 :: us)) i su1
  | _ => .no
def vCall1 (v : VF) (i : Nat) (l : List VE) : VE := fun su => match su[i]? with
  | some (some (.lst _, _)) => (vArgs1 i l su).bind (call1V v i)
  | _ => .no
/-- the only argument is a new list, and it changes -/
def vCallT (v : VF) (a : VE) : VE := fun su => (a su).bind fun p su1 => match p.2 with
  | .tmp => callV (v [p.1]) su1
  | _ => .no
section
variable {F : Fm} {h h1 h2 h' : DH} {s s1 s2 : DS} {su su0 su1 su2 : US} {d : D} {u : U}
theorem ER.xlt (e : ER F h s su) : ∀ m, XX F s su m → m < h.length := fun m z => by
  rcases z with z | z | ⟨i, a, v, b⟩
  · exact e.pb m z
  · have := e.wb m z; have := e.bl; omega
  · have : ∃ ds : List D, h[m]? = some (O.lst ds) := by
      rcases b with b | b
      · obtain ⟨d', a', n, us, c, _, _, _, ds, e1, _⟩ := e.slot i v _ b
        rw [a] at a'; cases a'; cases c
        exact ⟨ds, e1⟩
      · obtain ⟨d', a', n, us, c, _, _, _, ds, e1, _⟩ := e.slot i v _ b
        rw [a] at a'; cases a'; cases c
        exact ⟨ds, e1⟩
    obtain ⟨ds, e1⟩ := this
    exact lt_of_get e1
theorem go_ext (hl : h.length ≤ h'.length) (hh : ∀ (m : Nat) (o : O), h[m]? = some o → h'[m]? = some o) : Go F h s su h' s su := ⟨hl, fun n o e _ _ => hh n o e, fun _ q => .inl q, fun _ q => .inl q, fun _ u n a b => ⟨u, a, b⟩⟩
theorem er_ext (e : ER F h s su) (hl : h.length ≤ h'.length) (hh : ∀ (m : Nat) (o : O), h[m]? = some o → h'[m]? = some o) : ER F h' s su := e.ext hh hl (fun _ z => .inl z) rfl rfl fun n z => Nat.lt_of_lt_of_le (e.pb n z) hl
theorem er_extP {n : Nat} (e : ER F h s su) (hl : h.length ≤ h'.length) (hh : ∀ (m : Nat) (o : O), h[m]? = some o → h'[m]? = some o) (hn : h.length ≤ n) (hn' : n < h'.length) : ER (F.add n) h' s su := e.ext hh hl (fun m z => by
  rcases z with z | z
  · exact .inl z
  · exact .inr (by omega)) rfl rfl fun m z => by
  rcases z with z | z
  · exact Nat.lt_of_lt_of_le (e.pb m z) hl
  · omega
theorem args_app {l lk : List ME} {α : Type} {f : List D → List D → DH → Res α} : ((mArgs l s h).bind fun xs h1 => (mArgs lk s h1).bind fun zs h2 => f xs zs h2) = (mArgs (l ++ lk) s h).bind fun ys h2 => f (ys.take l.length) (ys.drop l.length) h2 := by
  induction l generalizing h f with
  | nil => simp [mArgs]
  | cons a r ih =>
    show (((a s h).bind fun x h1 => (mArgs r s h1).bind fun xs h2 => .ok (x :: xs) h2).bind fun xs h1 => (mArgs lk s h1).bind fun zs h2 => f xs zs h2) = (((a s h).bind fun x h1 => (mArgs (r ++ lk) s h1).bind fun xs h2 => .ok (x :: xs) h2).bind fun ys h2 => f (ys.take (r.length + 1)) (ys.drop (r.length + 1)) h2)
    cases a s h with
    | ok x h1 =>
      dsimp only [bind_ok]
      have := ih (h := h1) (f := fun xs zs h2 => f (x :: xs) zs h2)
      have e1 : (((mArgs r s h1).bind fun xs h2 => Res.ok (x :: xs) h2).bind fun xs h1 => (mArgs lk s h1).bind fun zs h2 => f xs zs h2) = (mArgs r s h1).bind fun xs h1 => (mArgs lk s h1).bind fun zs h2 => f (x :: xs) zs h2 := by cases mArgs r s h1 <;> rfl
      have e2 : (((mArgs (r ++ lk) s h1).bind fun xs h2 => Res.ok (x :: xs) h2).bind fun ys h2 => f (ys.take (r.length + 1)) (ys.drop (r.length + 1)) h2) = (mArgs (r ++ lk) s h1).bind fun ys h2 => f (x :: ys.take r.length) (ys.drop r.length) h2 := by cases mArgs (r ++ lk) s h1 <;> rfl
      rw [e1, e2, this]
    | exc x h1 => rfl
    | no => rfl
theorem pick_trs {X : Nat → Prop} : ∀ {pm : List Nat} {ds : List D} {us ys : List U}, TRs X h ds us → pickL pm us = some ys → ∃ es, pickL pm ds = some es ∧ TRs X h es ys
  | [], _, _, _, _, e => by cases e; exact ⟨[], rfl, .nil⟩
  | j :: r, ds, us, ys, q, e => by
    obtain ⟨u, a, e⟩ := bind_inv (show (us[j]?.bind fun x => (pickL r us).map fun ys => x :: ys) = some ys from e)
    obtain ⟨es, b, rfl⟩ := map_inv e
    obtain ⟨d, h1, h2⟩ := q.get a
    obtain ⟨xs, h3, h4⟩ := pick_trs q b
    refine ⟨d :: xs, ?_, .cons h2 h4⟩
    show (ds[j]?.bind fun x => (pickL r ds).map fun ys => x :: ys) = _
    rw [h1, h3]
    rfl
theorem call_ok {r : Res D} {v : RF} (e : ER F h s su) (q : match v with
  | .ok u fr _ => ∃ d h', r = .ok d h' ∧ h.length ≤ h'.length ∧ (∀ (m : Nat) (o : O), h[m]? = some o → h'[m]? = some o) ∧ RFr (XX F s su) h h' d u fr
  | .exc x _ => ∃ e h', r = .exc e h' ∧ h.length ≤ h'.length ∧ (∀ (m : Nat) (o : O), h[m]? = some o → h'[m]? = some o) ∧ XR (XX F s su) h' e x
  | .no => True) : OkG rK F h s su r (callV v su) := by
  cases v with
  | ok u fr o =>
    obtain ⟨d, h', rfl, hl, hh, rr⟩ := q
    cases fr with
    | true =>
      obtain ⟨n, us, rfl, rfl, hn, hn', r⟩ := rr
      refine ⟨_, h', rfl, go_ext hl hh, er_ext e hl hh, n, us, rfl, rfl, hn, Nat.le_trans e.bl hn, fun z => ?_, er_extP e hl hh hn hn', r.less fun m z => ?_⟩
      · have := e.pb n z; omega
      · exact xx_addI z
    | false => exact ⟨d, h', rfl, go_ext hl hh, er_ext e hl hh, rr⟩
  | exc x o =>
    obtain ⟨d, h', rfl, hl, hh, rr⟩ := q
    exact ⟨d, h', rfl, go_ext hl hh, er_ext e hl hh, rr⟩
  | no => trivial
theorem SimL.length {α β : Type} {rel : VRel α β} {l : List (DS → DH → Res α)} {w : List (US → RG β)} (q : SimL rel l w) : l.length = w.length := by induction q <;> simp [*]
theorem OkG.bindE {α β γ δ : Type} {rel : VRel α β} {rel2 : VRel γ δ} [MonoR rel2] {r : Res α} {v : RG β} {f : α → DH → Res γ} {k : β → US → RG δ} (q : OkG rel F h s su r v)
    (c : ∀ a b h1 su1, r = .ok a h1 → Go F h s su h1 s su1 → ER F h1 s su1 → rel F h.length h1 s su1 a b → OkG rel2 F h1 s su1 (f a h1) (k b su1)) : OkG rel2 F h s su (r.bind f) (v.bind k) := by
  cases v with
  | ok b su1 =>
    obtain ⟨a, h1, e1, g, e, q⟩ := q
    have := c a b h1 su1 e1 g e q
    rw [e1]
    exact OkG.go g this
  | exc x su1 =>
    obtain ⟨a, h1, rfl, g, e, q⟩ := q
    exact ⟨a, h1, rfl, g, e, q⟩
  | no => trivial
theorem mArgs_len : ∀ {l : List ME} {h h1 : DH} {xs : List D}, mArgs l s h = .ok xs h1 → xs.length = l.length
  | [], _, _, _, e => by cases e; rfl
  | a :: r, h, h1, xs, e => by
    have e : ((a s h).bind fun x h1 => (mArgs r s h1).bind fun xs h2 => Res.ok (x :: xs) h2) = .ok xs h1 := e
    cases z : a s h with
    | ok x h2 =>
      rw [z, bind_ok] at e
      cases zz : mArgs r s h2 with
      | ok ys h3 => rw [zz] at e; cases e; simp [mArgs_len zz]
      | exc _ _ => rw [zz] at e; cases e
      | no => rw [zz] at e; cases e
    | exc _ _ => rw [z] at e; cases e
    | no => rw [z] at e; cases e
theorem pick_len {α : Type} : ∀ {pm : List Nat} {xs ys : List α}, pickL pm xs = some ys → ys.length = pm.length
  | [], _, _, e => by cases e; rfl
  | j :: r, xs, ys, e => by
    obtain ⟨u, a, e⟩ := bind_inv (show (xs[j]?.bind fun x => (pickL r xs).map fun ys => x :: ys) = some ys from e)
    obtain ⟨es, b, rfl⟩ := map_inv e
    simp [pick_len b]
theorem sim_call {G : List D → DH → Res D} {v : VF} {np n m : Nat} {pm : List Nat} {l lk : List ME} {w : List VE} (f : FSim G v) (hp : pm.length = np) (q : SimL rK (l ++ lk) w) (hn : l.length = n) (hm : lk.length = m) : Sim rK (mCallK G np n m pm l lk) (vCall v pm w) := fun F h s su e => by
  have eq : mCallK G np n m pm l lk s h = (mArgs (l ++ lk) s h).bind fun ys h2 => if (ys.take l.length).length = n ∧ (ys.drop l.length).length = m then (match pickL pm (ys.take l.length ++ ys.drop l.length) with | some ys => if ys.length = np then G ys h2 else .no | none => .no) else .no := args_app (f := fun xs zs h2 => if xs.length = n ∧ zs.length = m then (match pickL pm (xs ++ zs) with | some ys => if ys.length = np then G ys h2 else .no | none => .no) else .no)
  rw [eq]
  refine OkG.bindE (sim_args q F h s su e) fun ds us h1 su1 e0 g1 e1 r1 => ?_
  have len := mArgs_len e0
  rw [List.length_append] at len
  cases z : pickL pm us with
  | none => trivial
  | some ys =>
    obtain ⟨es, e2, r2⟩ := pick_trs r1 z
    rw [if_pos (by simp; omega), List.take_append_drop, e2]
    dsimp only
    rw [if_pos (by rw [pick_len e2]; exact hp)]
    exact call_ok e1 (f (XX F s su1) h1 es ys e1.xlt r2)
/-! a def that changes its first list -/
def rTsN (i : Nat) : VRel (List D) (List U) := fun F _ h s su ds us => TRs (XX F s su) h ds us ∧ ∀ n u f, s[i]? = some (some (D.ref n)) → su[i]? = some (some (u, f)) → (f = .own ∨ f = .io) → ∀ d ∈ ds, d ≠ .ref n
instance {i : Nat} : MonoR (rTsN i) := ⟨fun _ r => r⟩
theorem KR.ne {l i n : Nat} {p : U × Kd} {v : U} {f : Fl} (e1 : ER F h1 s su1) (r : KR F l h1 s su1 d p.1 p.2) (g : Go F h1 s su1 h2 s su2) (e2 : ER F h2 s su2) (q : pend p su2) (nv : isView i p.2 = false)
    (a : s[i]? = some (some (D.ref n))) (b : su2[i]? = some (some (v, f))) (hf : f = .own ∨ f = .io) : d ≠ .ref n := fun z => by
  subst z
  have wn : (F.w n ∧ f = .io) ∨ (Wr s su2 n ∧ F.b ≤ n ∧ f = .own) := by
    rcases hf with rfl | rfl
    · obtain ⟨d', a', n', us, c, _, hb, _⟩ := e2.slot i v _ b
      rw [a] at a'; cases a'; cases c
      exact .inr ⟨⟨i, v, a, b⟩, hb, rfl⟩
    · obtain ⟨d', a', n', us, c, _, hw, _⟩ := e2.slot i v _ b
      rw [a] at a'; cases a'; cases c
      exact .inl ⟨hw, rfl⟩
  have xn : XX F s su2 n := by
    rcases wn with wn | wn
    · exact .inr (.inl wn.1)
    · exact .inr (.inr wn.1.ow)
  obtain ⟨u, k⟩ := p
  cases k with
  | shr =>
    have := g.rel r
    cases this with | lst nx _ _ => exact nx xn | edi nx _ => exact nx xn
  | tmp =>
    obtain ⟨m, us, c1, c2, _, hb, hp, e3, ds, e4, _⟩ := r
    cases c1
    rcases wn with wn | wn
    · have := e1.wb n wn.1; omega
    · rcases g.gw n wn.1 with z | z
      · exact e3.notWr z
      · have := lt_of_get e4; omega
  | bor =>
    rcases r with r | ⟨m, us, c1, c2, nw, nr, ds, e4, _⟩
    · have := g.rel r
      cases this with | lst nx _ _ => exact nx xn | edi nx _ => exact nx xn
    · cases c1
      rcases wn with wn | wn
      · exact nw wn.1
      · rcases g.gw n wn.1 with z | z
        · exact nr z
        · have := lt_of_get e4; omega
  | view j =>
    have nj : j ≠ i := by
      intro z
      subst z
      simp [isView] at nv
    rcases q with q | q
    · rcases wn with wn | wn
      · obtain ⟨d', a', n', us, c, _, hb, _⟩ := e2.slot j _ _ q
        rw [r.1] at a'; cases a'; cases c
        have := e2.wb n wn.1; omega
      · have hf' := wn.2.2
        subst hf'
        exact nj (e2.inj j i n ⟨r.1, _, .inl q⟩ ⟨a, _, .inl b⟩)
    · obtain ⟨d', a', n', us, c, _, hw, _⟩ := e2.slot j _ _ q
      rw [r.1] at a'; cases a'; cases c
      rcases wn with wn | wn
      · have hf' := wn.2
        subst hf'
        have h1 := e2.io1 i _ b; have h2 := e2.io1 j _ q
        omega
      · have := e2.wb n hw; omega
theorem sim_args1 {i : Nat} : ∀ {l : List ME} {w : List VE}, SimL rK l w → Sim (rTsN i) (mArgs l) (vArgs1 i w)
  | _, _, .nil => fun F h s su e => .pure e ⟨.nil, fun _ _ _ _ _ _ _ z => by cases z⟩
  | _, _, .cons a r => fun F h s su e => (a F h s su e).bind fun x p h1 su1 g1 e1 r1 => (sim_args1 r F h1 s su1 e1).bind fun y q h2 su2 g2 e2 r2 => by
    split
    · rename_i z
      refine .pure e2 ⟨.cons (KR.laterT e1 r1 g2 e2 z.1) r2.1, fun n u f a b hf d hd => ?_⟩
      rcases List.mem_cons.mp hd with rfl | hd
      · exact KR.ne e1 r1 g2 e2 z.1 z.2 a b hf
      · exact r2.2 n u f a b hf d hd
    · trivial
/-- behind a def that changed the list of slot i -/
theorem call1_er {i n : Nat} {u0 : U} {f : Fl} {us' : List U} {F' : Fm} (hf : f = .own ∨ f = .io) (e : ER F h s su) (a : s[i]? = some (some (D.ref n))) (b : su[i]? = some (some (u0, f))) (hl : h.length ≤ h'.length)
    (hh : ∀ (m : Nat) (o : O), m ≠ n → h[m]? = some o → h'[m]? = some o) (r : LR (XX F' s su) h' n us') (hw' : F'.w = F.w)
    (eF : ∀ h'', h''.length = h'.length → (∀ (m : Nat) (o : O), h[m]? = some o → h''[m]? = some o) → ER F' h'' s su) : ER F' h' s (su.set i (some (.lst us', f))) ∧ Go F' h s su h' s (su.set i (some (.lst us', f))) ∧ XX F' s (su.set i (some (.lst us', f))) = XX F' s su := by
  have ob : (∃ ds : List D, h[n]? = some (O.lst ds)) ∧ (f = .io → F.w n) := by
    rcases hf with rfl | rfl
    · obtain ⟨d', a', n', us, c, _, _, _, ds, e1, _⟩ := e.slot i u0 _ b
      rw [a] at a'; cases a'; cases c
      exact ⟨⟨ds, e1⟩, fun z => nomatch z⟩
    · obtain ⟨d', a', n', us, c, _, hw, ds, e1, _⟩ := e.slot i u0 _ b
      rw [a] at a'; cases a'; cases c
      exact ⟨⟨ds, e1⟩, fun _ => hw⟩
  obtain ⟨⟨ds0, e0⟩, fio⟩ := ob
  have hn := lt_of_get e0
  obtain ⟨ds', e1, r1⟩ := r
  have xn : XX F' s su n := by
    rcases hf with rfl | rfl
    · exact .inr (.inr ⟨i, a, u0, .inl b⟩)
    · exact .inr (.inl (by rw [hw']; exact fio rfl))
  -- the heap as it would be had the list not changed
  have hx : ∀ (m : Nat) (o : O), h[m]? = some o → (h'.set n (.lst ds0))[m]? = some o := fun m o e2 => by
    by_cases z : n = m
    · subst z; rw [e0] at e2; cases e2; exact List.getElem?_set_self (by omega)
    · rw [List.getElem?_set_ne z]; exact hh m o (Ne.symm z) e2
  have ex := eF (h'.set n (.lst ds0)) (by simp) hx
  have gx := go_ext (F := F') (s := s) (su := su) (h' := h'.set n (.lst ds0)) (by simpa using hl) hx
  have r2 : URels (XX F' s su) (h'.set n (.lst ds0)) ds' us' := r1.mono (fun m z => .inl z) fun m o nx e2 => by
    rw [List.getElem?_set_ne (fun z => nx (by rw [← z]; exact xn))]
    exact e2
  obtain ⟨em, gm⟩ := ex.mut (us := []) hf a b r2
  have hs : (h'.set n (.lst ds0)).set n (.lst ds') = h' := by
    rw [List.set_set]
    apply List.ext_getElem?
    intro m
    by_cases z : n = m
    · subst z; rw [e1]; exact List.getElem?_set_self (by omega)
    · rw [List.getElem?_set_ne z]
  rw [hs] at em gm
  refine ⟨em, gx.trans gm, ?_⟩
  funext m
  have il := lt_of_get b
  have ow : Ow s (su.set i (some (.lst us', f))) m ↔ Ow s su m := by
    constructor
    · rintro ⟨j, a', v, b'⟩
      rcases b' with b' | b'
      · rcases get_set_some b' with ⟨q, b', _⟩ | ⟨q, b'⟩
        · cases b'; subst q; exact ⟨i, a', u0, .inl b⟩
        · exact ⟨j, a', v, .inl b'⟩
      · rcases get_set_some b' with ⟨q, b', _⟩ | ⟨q, b'⟩
        · cases b'; rcases hf with hf | hf <;> cases hf
        · exact ⟨j, a', v, .inr b'⟩
    · rintro ⟨j, a', v, b'⟩
      by_cases q : i = j
      · subst q
        rcases b' with b' | b'
        · rw [b] at b'; cases b'
          exact ⟨i, a', .lst us', .inl (by rw [get_set, if_pos rfl, if_pos il])⟩
        · rw [b] at b'; cases b'
          rcases hf with hf | hf <;> cases hf
      · exact ⟨j, a', v, by rw [get_set, if_neg q]; exact b'⟩
  unfold XX
  rw [propext ow]
theorem call1_ok {i n : Nat} {u0 : U} {f : Fl} {r : Res D} {v : RF} (hf : f = .own ∨ f = .io) (e : ER F h s su) (a : s[i]? = some (some (D.ref n))) (b : su[i]? = some (some (u0, f))) (q : match v with
  | .ok u fr out => ∃ d h', r = .ok d h' ∧ h.length ≤ h'.length ∧ (∀ (m : Nat) (o : O), m ≠ n → h[m]? = some o → h'[m]? = some o) ∧ (∃ us', out = .lst us' ∧ LR (XX F s su) h' n us' ∧ (fr = true → ∀ k, d = .ref k → LR (fun m => XX F s su m ∨ m = k) h' n us')) ∧ RFr (XX F s su) h h' d u fr
  | .exc x out => ∃ e h', r = .exc e h' ∧ h.length ≤ h'.length ∧ (∀ (m : Nat) (o : O), m ≠ n → h[m]? = some o → h'[m]? = some o) ∧ (∃ us', out = .lst us' ∧ LR (XX F s su) h' n us') ∧ XR (XX F s su) h' e x
  | .no => True) : OkG rK F h s su r (callV1 v i su) := by
  have put : ∀ (o : U) (k : US → RG (U × Kd)), putO i o su k = k (su.set i (some (o, f))) := fun o k => by
    unfold putO
    rw [b]
    rcases hf with rfl | rfl <;> rfl
  cases v with
  | ok u fr o =>
    obtain ⟨d, h', rfl, hl, hh, ⟨us', rfl, lr, lr2⟩, rr⟩ := q
    obtain ⟨er, g, xx⟩ := call1_er hf e a b hl hh lr rfl fun h'' e1 e2 => er_ext e (by omega) e2
    cases fr with
    | true =>
      obtain ⟨n2, us, rfl, rfl, hn, hn', r⟩ := rr
      show OkG rK F h s su _ (putO i _ su _)
      rw [put]
      have l3 : LR (XX (F.add n2) s su) h' n us' := (lr2 rfl n2 rfl).less fun m z => xx_addI z
      obtain ⟨er2, _, _⟩ := call1_er (F' := F.add n2) hf e a b hl hh l3 rfl fun h'' e1 e2 => er_extP e (by omega) e2 hn (by omega)
      refine ⟨_, h', rfl, g, er, n2, us, rfl, rfl, hn, Nat.le_trans e.bl hn, fun z => ?_, er2, ?_⟩
      · have := e.pb n2 z; omega
      · show LR (XX (F.add n2) s (su.set i (some (.lst us', f)))) h' n2 us
        refine r.less fun m z => ?_
        rcases xx_addI z with z | z
        · rw [xx] at z; exact .inl z
        · exact .inr z
    | false =>
      show OkG rK F h s su _ (putO i _ su _)
      rw [put]
      refine ⟨d, h', rfl, g, er, ?_⟩
      show URel (XX F s (su.set i (some (.lst us', f)))) h' d u
      rw [xx]; exact rr
  | exc x o =>
    obtain ⟨d, h', rfl, hl, hh, ⟨us', rfl, lr⟩, rr⟩ := q
    obtain ⟨er, g, xx⟩ := call1_er hf e a b hl hh lr rfl fun h'' e1 e2 => er_ext e (by omega) e2
    show OkG rK F h s su _ (putO i _ su _)
    rw [put]
    exact ⟨d, h', rfl, g, er, by rw [xx]; exact rr⟩
  | no => trivial
theorem ids_pick {α : Type} (xs : List α) : ∀ (n k : Nat), n + k ≤ xs.length → pickL (List.range' k n) xs = some ((xs.drop k).take n)
  | 0, k, _ => by simp [List.range'];
  | n + 1, k, h => by
    rw [List.range'_succ]
    show (xs[k]?.bind fun x => (pickL (List.range' (k + 1) n) xs).map fun ys => x :: ys) = _
    have hk : k < xs.length := by omega
    rw [List.getElem?_eq_getElem hk, ids_pick xs n (k + 1) (by omega), List.drop_eq_getElem_cons hk]
    rfl
theorem sim_call1 {G : List D → DH → Res D} {v : VF} {np n : Nat} {pm : List Nat} {i : Nat} {l : List ME} {w : List VE} (f : FSim1 G v) (hp : pm = List.range' 0 np) (q : SimL rK l w) (hn : l.length + 1 = n) (hnp : n = np) : Sim rK (mCallK G np n 0 pm (mVar i :: l) []) (vCall1 v i w) := fun F h s su e => by
  subst hp; subst hnp; subst hn
  unfold vCall1
  split
  · rename_i us0 f0 q0
    obtain ⟨n, ds0, a, b, _⟩ := slot_lst e q0
    have eq : mCallK G (l.length + 1) (l.length + 1) 0 (List.range' 0 (l.length + 1)) (mVar i :: l) [] s h = (mArgs l s h).bind fun ds h1 => G (.ref n :: ds) h1 := by
      show (((mVar i s h).bind fun x h1 => (mArgs l s h1).bind fun xs h2 => Res.ok (x :: xs) h2).bind fun xs h1 => (Res.ok [] h1).bind fun zs h2 => _) = _
      rw [var_eq a, bind_ok]
      cases zz : mArgs l s h with
      | ok ds h1 =>
        rw [bind_ok, bind_ok, bind_ok, bind_ok]
        have hl := mArgs_len zz
        rw [if_pos (by simp [hl]), List.append_nil, ids_pick _ _ _ (by simp [hl])]
        dsimp only
        rw [if_pos (by simp [hl])]
        rw [List.drop_zero, List.take_of_length_le (by simp [hl])]
      | exc x h1 => rfl
      | no => rfl
    rw [eq]
    refine (sim_args1 (i := i) q F h s su e).bind fun ds us h1 su1 g1 e1 r1 => ?_
    unfold call1V
    split
    · rename_i u0 z
      obtain ⟨d', a', n', us', c1, c2, _, _, r⟩ := e1.slot i _ _ z
      rw [a] at a'; cases a'; cases c1; cases c2
      exact call1_ok (.inl rfl) e1 a z (f (XX F s su1) h1 n u0 ds us e1.xlt (.inr (.inr ⟨i, a, _, .inl z⟩)) r r1.1 (r1.2 n _ _ a z (.inl rfl)))
    · rename_i u0 z
      obtain ⟨d', a', n', us', c1, c2, hw, r⟩ := e1.slot i _ _ z
      rw [a] at a'; cases a'; cases c1; cases c2
      exact call1_ok (.inr rfl) e1 a z (f (XX F s su1) h1 n u0 ds us e1.xlt (.inr (.inl hw)) r r1.1 (r1.2 n _ _ a z (.inr rfl)))
    · trivial
  · trivial
/-- the env does not see what happens at n -/
theorem er_at {n : Nat} (e : ER (F.add n) h s su) (hb : F.b ≤ n) (hl : h.length ≤ h'.length) (hh : ∀ (m : Nat) (o : O), m ≠ n → h[m]? = some o → h'[m]? = some o) : ER F h' s su := by
  have rel : ∀ {d : D} {u : U}, URel (XX (F.add n) s su) h d u → URel (XX F s su) h' d u := fun r => r.mono (fun m z => .inl (xx_add z)) fun m o nx e2 => hh m o (fun z => nx (by subst z; exact .inl (.inr rfl))) e2
  have lr : ∀ {m : Nat} {us : List U}, m ≠ n → LR (XX (F.add n) s su) h m us → LR (XX F s su) h' m us := fun hm r => by
    obtain ⟨ds, e1, r1⟩ := r
    exact ⟨ds, hh _ _ hm e1, r1.mono (fun m z => .inl (xx_add z)) fun m o nx e2 => hh m o (fun z => nx (by subst z; exact .inl (.inr rfl))) e2⟩
  refine ⟨e.len, fun i u f q => ?_, e.inj, e.io1, fun m z => Nat.lt_of_lt_of_le (e.pb m (.inl z)) hl, e.wb, Nat.le_trans e.bl hl⟩
  obtain ⟨d, a, r⟩ := e.slot i u f q
  refine ⟨d, a, ?_⟩
  cases f with
  | own => obtain ⟨m, us, a, b, c, x, r⟩ := r; exact ⟨m, us, a, b, c, fun z => x (.inl z), lr (fun z => x (.inr z)) r⟩
  | lent => obtain ⟨m, us, a, b, c, x, r⟩ := r; exact ⟨m, us, a, b, c, fun z => x (.inl z), lr (fun z => x (.inr z)) r⟩
  | io => obtain ⟨m, us, a, b, c, r⟩ := r; exact ⟨m, us, a, b, c, lr (fun z => by subst z; have := e.wb m c; have h2 : (F.add m).b = F.b := rfl; omega) r⟩
  | bor =>
    rcases r with r | ⟨m, us, a, b, c, x, r⟩
    · exact .inl (rel r)
    · exact .inr ⟨m, us, a, b, c, x, lr (fun z => by subst z; have c : m < F.b := c; omega) r⟩
  | shr => exact rel r
theorem er_atP {n k : Nat} (e : ER (F.add n) h s su) (hb : F.b ≤ n) (hl : h.length ≤ h'.length) (hh : ∀ (m : Nat) (o : O), m ≠ n → h[m]? = some o → h'[m]? = some o) (hk : h.length ≤ k) (hk' : k < h'.length) : ER (F.add k) h' s su := by
  have e2 := er_at e hb hl hh
  -- a longer heap that keeps all of h but n
  have e3 : ER ((F.add k).add n) (h ++ List.replicate (k + 1 - h.length) (.lst [])) s su := by
    refine e.ext (fun _ _ z => app_get z) (by simp) (fun m z => ?_) rfl rfl fun m z => ?_
    · rcases z with (z | z) | z
      · exact .inl (.inl z)
      · exact .inr (by omega)
      · exact .inl (.inr z)
    · rcases z with (z | z) | z
      · have := e.pb m (.inl z); simp; omega
      · simp; omega
      · have := e.pb m (.inr z); simp; omega
  refine ⟨e2.len, fun i u f q => ?_, e2.inj, e2.io1, fun m z => ?_, e2.wb, e2.bl⟩
  · obtain ⟨d, a, r⟩ := e.slot i u f q
    have rel : ∀ {d : D} {u : U}, URel (XX (F.add n) s su) h d u → URel (XX (F.add k) s su) h' d u := fun r => r.mono (fun m z => by
      rcases xx_addI z with z | z
      · exact .inl (xx_add z)
      · exact .inr (by omega)) fun m o nx e2 => hh m o (fun z => nx (by subst z; exact .inl (.inr rfl))) e2
    have lr : ∀ {m : Nat} {us : List U}, m ≠ n → LR (XX (F.add n) s su) h m us → LR (XX (F.add k) s su) h' m us := fun hm r => by
      obtain ⟨ds, e1, r1⟩ := r
      exact ⟨ds, hh _ _ hm e1, r1.mono (fun m z => by
        rcases xx_addI z with z | z
        · exact .inl (xx_add z)
        · exact .inr (by omega)) fun m o nx e2 => hh m o (fun z => nx (by subst z; exact .inl (.inr rfl))) e2⟩
    have nk : ∀ {m : Nat} {us : List U}, LR (XX (F.add n) s su) h m us → m ≠ k := fun ⟨ds, e1, _⟩ z => by
      subst z; have := lt_of_get e1; omega
    refine ⟨d, a, ?_⟩
    cases f with
    | own => obtain ⟨m, us, a, b, c, x, r⟩ := r; exact ⟨m, us, a, b, c, fun z => z.elim (fun z => x (.inl z)) (nk r), lr (fun z => x (.inr z)) r⟩
    | lent => obtain ⟨m, us, a, b, c, x, r⟩ := r; exact ⟨m, us, a, b, c, fun z => z.elim (fun z => x (.inl z)) (nk r), lr (fun z => x (.inr z)) r⟩
    | io => obtain ⟨m, us, a, b, c, r⟩ := r; exact ⟨m, us, a, b, c, lr (fun z => by subst z; have := e.wb m c; have h2 : (F.add m).b = F.b := rfl; omega) r⟩
    | bor =>
      rcases r with r | ⟨m, us, a, b, c, x, r⟩
      · exact .inl (rel r)
      · exact .inr ⟨m, us, a, b, c, x, lr (fun z => by subst z; have c : m < F.b := c; omega) r⟩
    | shr => exact rel r
  · rcases z with z | z
    · exact e2.pb m z
    · omega
theorem sim_callT {G : List D → DH → Res D} {v : VF} {a : ME} {w : VE} (f : FSim1 G v) (q : Sim rK a w) : Sim rK (mCallK G 1 1 0 [0] [a] []) (vCallT v w) := fun F h s su e => by
  have eq : mCallK G 1 1 0 [0] [a] [] s h = (a s h).bind fun d h1 => G [d] h1 := by
    show (((a s h).bind fun x h1 => (Res.ok [] h1).bind fun xs h2 => Res.ok (x :: xs) h2).bind fun xs h1 => (Res.ok [] h1).bind fun zs h2 => _) = _
    cases a s h <;> rfl
  rw [eq]
  have qq := q F h s su e
  unfold vCallT
  cases z : w su with
  | ok p su1 =>
    rw [z] at qq
    obtain ⟨d, h1, e0, g1, e1, r1⟩ := qq
    rw [e0, bind_ok, rg_ok]
    obtain ⟨u, k⟩ := p
    cases k with
    | tmp =>
      obtain ⟨n, us, rfl, rfl, hl, hb, hp, e2, r⟩ := r1
      have fs := f (XX (F.add n) s su1) h1 n us [] [] e2.xlt (.inl (.inr rfl)) r .nil (fun d hd => by cases hd)
      have go : ∀ {h' : DH}, h1.length ≤ h'.length → (∀ (m : Nat) (o : O), m ≠ n → h1[m]? = some o → h'[m]? = some o) → Go F h s su h' s su1 := fun hl' hh => by
        refine ⟨Nat.le_trans g1.le hl', fun m o e nw nr => hh m o (fun z => ?_) (g1.fr m o e nw nr), g1.gw, g1.gx, g1.lt⟩
        subst z
        have := lt_of_get e; omega
      show OkG rK F h s su _ (callV (v [.lst us]) su1)
      cases zz : v [.lst us] with
      | ok u2 fr o =>
        rw [zz] at fs
        obtain ⟨d, h', e3, hl', hh, _, rr⟩ := fs
        cases fr with
        | true =>
          obtain ⟨k, us2, rfl, rfl, hk, hk', r⟩ := rr
          refine ⟨_, h', e3, go hl' hh, er_at e2 hb hl' hh, k, us2, rfl, rfl, Nat.le_trans g1.le hk, Nat.le_trans e1.bl hk, fun z => ?_, er_atP e2 hb hl' hh hk hk', r.less fun m z => ?_⟩
          · have := e1.pb k z; omega
          · rcases xx_addI z with z | z
            · exact .inl (xx_add z)
            · exact .inr z
        | false =>
          exact ⟨d, h', e3, go hl' hh, er_at e2 hb hl' hh, URel.less (fun m z => xx_add z) rr⟩
      | exc x o =>
        rw [zz] at fs
        obtain ⟨d, h', e3, hl', hh, _, rr⟩ := fs
        refine ⟨d, h', e3, go hl' hh, er_at e2 hb hl' hh, rr.1, ?_⟩
        have := rr.2
        generalize d.fs = a at this
        generalize x.fs = b at this
        induction this with
        | nil => exact .nil
        | cons r _ ih => exact .cons (r.less fun m z => xx_add z) ih
      | no => trivial
    | _ => trivial
  | exc x su1 =>
    rw [z] at qq
    obtain ⟨d, h1, e0, g1, e1, r1⟩ := qq
    rw [e0]
    exact ⟨d, h1, rfl, g1, e1, r1⟩
  | no => trivial
end
end
end PyI
-- PvH
/-! PvH: several names at once -/
namespace PyI
noncomputable section
open PySem PySem.Spec L2
def Fm.addL (F : Fm) (N : List Nat) : Fm := { F with P := fun m => F.P m ∨ m ∈ N }
inductive PRs (X : Nat → Prop) (h : DH) : List D → List (U × Bool) → List Nat → Prop
  | nil : PRs X h [] [] []
  | shr {d : D} {u : U} {ds : List D} {ps : List (U × Bool)} {N : List Nat} : URel X h d u → PRs X h ds ps N → PRs X h (d :: ds) ((u, false) :: ps) N
  | own {n : Nat} {us : List U} {ds : List D} {ps : List (U × Bool)} {N : List Nat} : LR X h n us → PRs X h ds ps N → PRs X h (.ref n :: ds) ((.lst us, true) :: ps) (n :: N)
def vParA : List VE → US → RG (List (U × Bool))
  | [] => fun su => .ok [] su
  | a :: r => fun su => (a su).bind fun p su1 => match p.2 with
    | .tmp => (vParA r su1).bind fun us su2 => .ok ((p.1, true) :: us) su2
    | _ => (escV p su1).bind fun u su2 => (vParA r su2).bind fun us su3 => .ok ((u, false) :: us) su3
def flOf : Bool → Fl
  | true => .own
  | false => .shr
def setAll : List Nat → List (U × Bool) → US → US
  | i :: ix, p :: ps, su => setAll ix ps (su.set i (some (p.1, flOf p.2)))
  | _, _, su => su
def vPar (ix : List Nat) (l : List VE) : VS := fun su => bindV (vParA l su) fun ps su1 => if ps.length = ix.length then .nx (setAll ix ps su1) else .no
section
variable {F : Fm} {h h0 h1 h2 : DH} {s s0 s1 s2 : DS} {su su0 su1 su2 : US} {d : D} {u : U}
theorem PRs.mono {X Y : Nat → Prop} (hx : ∀ m, Y m → X m) {ds : List D} {ps : List (U × Bool)} {N : List Nat} (r : PRs X h ds ps N) : PRs Y h ds ps N := by
  induction r with
  | nil => exact .nil
  | shr a _ ih => exact .shr (a.less hx) ih
  | own a _ ih => exact .own (a.less hx) ih
theorem PRs.length {X : Nat → Prop} {ds : List D} {ps : List (U × Bool)} {N : List Nat} (r : PRs X h ds ps N) : ds.length = ps.length := by
  induction r <;> simp [*]
def rPar : VRel (List D) (List (U × Bool)) := fun F l h s su ds ps => ∃ N : List Nat, N.Nodup ∧ (∀ n ∈ N, l ≤ n ∧ F.b ≤ n ∧ ¬ F.P n) ∧ ER (F.addL N) h s su ∧ PRs (XX (F.addL N) s su) h ds ps N
instance : MonoR rPar := ⟨fun hl ⟨N, a, b, c⟩ => ⟨N, a, fun n hn => ⟨Nat.le_trans hl (b n hn).1, (b n hn).2⟩, c⟩⟩
theorem xx_addL {N : List Nat} {m : Nat} (q : XX (F.addL N) s su m) : XX F s su m ∨ m ∈ N := by
  rcases q with (q | q) | q | q
  · exact .inl (.inl q)
  · exact .inr q
  · exact .inl (.inr (.inl q))
  · exact .inl (.inr (.inr q))
theorem addL_cons {n : Nat} {N : List Nat} : F.addL (n :: N) = (F.add n).addL N := by
  unfold Fm.addL Fm.add
  congr
  funext m
  simp [or_assoc]
theorem addL_cons2 {n : Nat} {N : List Nat} : F.addL (n :: N) = (F.addL N).add n := by
  unfold Fm.addL Fm.add
  congr
  funext m
  apply propext
  constructor
  · rintro (q | q)
    · exact .inl (.inl q)
    · rcases List.mem_cons.mp q with q | q
      · exact .inr q
      · exact .inl (.inr q)
  · rintro ((q | q) | q)
    · exact .inl q
    · exact .inr (List.mem_cons_of_mem _ q)
    · exact .inr (by rw [q]; exact List.mem_cons_self)
theorem addL_nil : F.addL [] = F := by
  unfold Fm.addL
  cases F
  simp
theorem par_rest {a : D} {b : U × Bool} {r : List ME} {w : List VE} {F' : Fm} (ih : OkG rPar F' h1 s su1 (mArgs r s h1) (vParA w su1)) (g : Go F h s su h1 s su1)
    (gF : ∀ {h2 : DH} {su2 : US}, Go F' h1 s su1 h2 s su2 → Go F h1 s su1 h2 s su2) (eF : ∀ {h2 : DH} {su2 : US}, ER F' h2 s su2 → ER F h2 s su2) (xF : ∀ {su2 : US}, XX F s su2 = XX F s su2)
    (xr : ∀ {h2 : DH} {su2 : US} {x : Exn} {y : XU}, XR (XX F' s su2) h2 x y → XR (XX F s su2) h2 x y)
    (fin : ∀ {h2 : DH} {su2 : US} {ds : List D} {ps : List (U × Bool)}, Go F' h1 s su1 h2 s su2 → ER F' h2 s su2 → rPar F' h1.length h2 s su2 ds ps → rPar F h.length h2 s su2 (a :: ds) (b :: ps)) :
    OkG rPar F h s su ((mArgs r s h1).bind fun xs h2 => .ok (a :: xs) h2) ((vParA w su1).bind fun us su3 => .ok (b :: us) su3) := by
  cases z : vParA w su1 with
  | ok ps su2 =>
    rw [z] at ih
    obtain ⟨ds, h2, e, g2, e2, r2⟩ := ih
    rw [e]
    exact ⟨_, h2, rfl, g.trans (gF g2), eF e2, fin g2 e2 r2⟩
  | exc x su2 =>
    rw [z] at ih
    obtain ⟨ds, h2, e, g2, e2, r2⟩ := ih
    rw [e]
    exact ⟨_, h2, rfl, g.trans (gF g2), eF e2, xr r2⟩
  | no => trivial
theorem frels_less {X Y : Nat → Prop} (hx : ∀ m, Y m → X m) {x : Exn} {y : XU} (r : XR X h x y) : XR Y h x y := by
  refine ⟨r.1, ?_⟩
  have := r.2
  generalize x.fs = a at this
  generalize y.fs = b at this
  induction this with
  | nil => exact .nil
  | cons r _ ih => exact .cons (r.less hx) ih
theorem sim_parA : ∀ {l : List ME} {w : List VE}, SimL rK l w → Sim rPar (mArgs l) (vParA w)
  | _, _, .nil => fun F h s su e => .pure e ⟨[], List.nodup_nil, (fun n hn => by cases hn), (by rw [addL_nil]; exact e), .nil⟩
  | _, _, .cons (a := a) (v := v) (l := l) (w := w) q r => fun F h s su e => by
    have qa := q F h s su e
    show OkG rPar F h s su ((a s h).bind fun x h1 => (mArgs l s h1).bind fun xs h2 => .ok (x :: xs) h2) ((v su).bind fun p su1 => match p.2 with
      | .tmp => (vParA w su1).bind fun us su2 => .ok ((p.1, true) :: us) su2
      | _ => (escV p su1).bind fun u su2 => (vParA w su2).bind fun us su3 => .ok ((u, false) :: us) su3)
    cases z : v su with
    | ok p su1 =>
      rw [z] at qa
      obtain ⟨d, h1, e0, g1, e1, r1⟩ := qa
      rw [e0, bind_ok, rg_ok]
      have gen : OkG rPar F h s su ((mArgs l s h1).bind fun xs h2 => .ok (d :: xs) h2) ((escV p su1).bind fun u su2 => (vParA w su2).bind fun us su3 => .ok ((u, false) :: us) su3) := by
        have q2 := esc_ok e1 r1
        cases zz : escV p su1 with
        | ok u su2 =>
          rw [zz] at q2
          obtain ⟨d', h', e', g2, e2, r2⟩ := q2
          cases e'
          refine par_rest (F' := F) (sim_parA r F h1 s su2 e2) (g1.trans g2) id id rfl id fun g3 e3 ⟨N, n1, n2, n3, n4⟩ => ⟨N, n1, fun n hn => ⟨Nat.le_trans g1.le (n2 n hn).1, (n2 n hn).2⟩, n3, .shr (r2.mono (fun m z => ?_) g3.keep) n4⟩
          rcases xx_addL z with z | z
          · exact g3.xx m z
          · exact .inr (n2 m z).1
        | exc x su2 => rw [zz] at q2; obtain ⟨_, _, e', _⟩ := q2; cases e'
        | no => trivial
      obtain ⟨u, k⟩ := p
      cases k with
      | tmp =>
        obtain ⟨n, us, rfl, rfl, hl, hb, hp, e2, ds, e3, rr⟩ := r1
        refine par_rest (F' := F.add n) (sim_parA r (F.add n) h1 s su1 e2) g1 Go.subP ER.sub rfl (fun z => frels_less (fun m => xx_add) z) fun g3 e4 ⟨N, n1, n2, n3, n4⟩ => ⟨n :: N, ?_, fun m hm => ?_, ?_, ?_⟩
        · exact List.nodup_cons.mpr ⟨fun hn => (n2 n hn).2.2 (.inr rfl), n1⟩
        · rcases List.mem_cons.mp hm with rfl | hm
          · exact ⟨hl, hb, hp⟩
          · exact ⟨Nat.le_trans g1.le (n2 m hm).1, (n2 m hm).2.1, fun z => (n2 m hm).2.2 (.inl z)⟩
        · rw [addL_cons]; exact n3
        · rw [addL_cons]
          refine .own ⟨ds, ?_, rr.mono (fun m z => ?_) g3.keep⟩ n4
          · exact g3.fr n _ e3 (fun z => by have := e1.wb n z; omega) e2.notWr
          · rcases xx_addL z with z | z
            · exact g3.xx m z
            · exact .inr (n2 m z).1
      | shr => exact gen
      | bor => exact gen
      | view i => exact gen
    | exc x su1 =>
      rw [z] at qa
      obtain ⟨d, h1, e0, g1, e1, r1⟩ := qa
      rw [e0]
      exact ⟨d, h1, rfl, g1, e1, r1⟩
    | no => trivial
theorem zipfold {ix : List Nat} : ∀ {ds : List D} {s : DS}, (ix.zip ds).foldl (fun s p => s.set p.1 (some p.2)) s = match ix, ds with
    | i :: ix, d :: ds => (ix.zip ds).foldl (fun s p => s.set p.1 (some p.2)) (s.set i (some d))
    | _, _ => s := by
  intro ds s
  cases ix <;> cases ds <;> rfl
theorem setAll_ok : ∀ {ix : List Nat} {ds : List D} {ps : List (U × Bool)} {N : List Nat} {s : DS} {su : US}, PRs (XX (F.addL N) s su) h ds ps N → N.Nodup → (∀ n ∈ N, h0.length ≤ n ∧ F.b ≤ n ∧ ¬ F.P n) → ER (F.addL N) h s su → Go F h0 s0 su0 h s su →
    ∃ s', (ix.zip ds).foldl (fun s p => s.set p.1 (some p.2)) s = s' ∧ Go F h0 s0 su0 h s' (setAll ix ps su) ∧ ER F h s' (setAll ix ps su)
  | [], ds, ps, N, s, su, r, nd, hN, e, g => ⟨s, rfl, by unfold setAll; exact g, by unfold setAll; exact e.ext (F' := F) (fun _ _ z => z) (Nat.le_refl _) (fun m z => .inl (.inl z)) rfl rfl fun m z => e.pb m (.inl z)⟩
  | i :: ix, [], _, _, s, su, .nil, nd, hN, e, g => ⟨s, rfl, by unfold setAll; exact g, by unfold setAll; exact e.ext (F' := F) (fun _ _ z => z) (Nat.le_refl _) (fun m z => .inl (.inl z)) rfl rfl fun m z => e.pb m (.inl z)⟩
  | i :: ix, _, _, N, s, su, .shr (d := d) (u := u) a r, nd, hN, e, g => by
    obtain ⟨e1, g1⟩ := e.setShr (i := i) a
    have gg : Go F h0 s0 su0 h (s.set i (some d)) (su.set i (some (u, .shr))) := g.trans ⟨g1.le, g1.fr, g1.gw, g1.gx, g1.lt⟩
    have sub : ∀ m, XX (F.addL N) (s.set i (some d)) (su.set i (some (u, .shr))) m → XX (F.addL N) s su m := fun m z => by
      rcases z with z | z | z
      · exact .inl z
      · exact .inr (.inl z)
      · obtain ⟨j, a, v, b⟩ := z
        rcases b with b | b
        · rcases get_set_some b with ⟨_, b, _⟩ | ⟨ij, b⟩
          · cases b
          · rw [get_set, if_neg ij] at a; exact .inr (.inr ⟨j, a, v, .inl b⟩)
        · rcases get_set_some b with ⟨_, b, _⟩ | ⟨ij, b⟩
          · cases b
          · rw [get_set, if_neg ij] at a; exact .inr (.inr ⟨j, a, v, .inr b⟩)
    exact setAll_ok (ix := ix) (r.mono sub) nd hN e1 gg
  | i :: ix, _, _, n :: N, s, su, .own (us := us) a r, nd, hN, e, g => by
    rw [addL_cons2] at e a r
    obtain ⟨hl, hb, hp⟩ := hN n List.mem_cons_self
    have nN := (List.nodup_cons.mp nd).1
    have g' : Go (F.addL N) h0 s0 su0 h s su := ⟨g.le, g.fr, g.gw, g.gx, g.lt⟩
    obtain ⟨e1, g1⟩ := ER.setOwn (i := i) (F := F.addL N) g' hl hb (fun z => z.elim hp nN) e a
    have sub : ∀ m, XX (F.addL N) (s.set i (some (.ref n))) (su.set i (some (.lst us, .own))) m → XX ((F.addL N).add n) s su m := fun m z => by
      rcases z with z | z | z
      · exact .inl (.inl z)
      · exact .inr (.inl z)
      · obtain ⟨j, a, v, b⟩ := z
        rcases get_set_some a with ⟨_, a, _⟩ | ⟨ij, a⟩
        · cases a; exact .inl (.inr rfl)
        · rw [get_set, if_neg ij] at b; exact .inr (.inr ⟨j, a, v, b⟩)
    exact setAll_ok (ix := ix) (r.mono sub) (List.nodup_cons.mp nd).2 (fun m hm => hN m (List.mem_cons_of_mem _ hm)) e1 ⟨g1.le, g1.fr, g1.gw, g1.gx, g1.lt⟩
theorem sims_par {ix : List Nat} {l : List ME} {w : List VE} (q : SimL rK l w) : SimS (mPar ix l) (vPar ix w) := fun F h s su e => by
  have qa := sim_parA q F h s su e
  unfold mPar vPar
  cases z : vParA w su with
  | ok ps su1 =>
    rw [z] at qa
    obtain ⟨ds, h1, e0, g1, e1, N, n1, n2, n3, n4⟩ := qa
    rw [e0, bindS_ok, bv_ok, n4.length]
    split
    · obtain ⟨s', a, g2, e2⟩ := setAll_ok (ix := ix) n4 n1 n2 n3 g1
      exact ⟨s', h1, by rw [← a], g2, e2⟩
    · trivial
  | exc x su1 =>
    rw [z] at qa
    obtain ⟨d, h1, e0, g1, e1, r1⟩ := qa
    rw [e0]
    exact ⟨d, s, h1, rfl, g1, e1, r1⟩
  | no => trivial
end
end
end PyI
namespace PyI
noncomputable section
open PySem PySem.Spec L2
def uAug (op : Operator) (x y : U) : VO := match op, x, y with
  | .Add, .int i, .int j => .val (.int (i + j))
  | .Add, .str i, .str j => if i.length + j.length ≤ 16777216 then .val (.str (i ++ j)) else .no
  | .Sub, .int i, .int j => .val (.int (i - j))
  | .Mult, .int i, .int j => if big64 i || big64 j then .val (.int (i * j)) else .no
  | .Mult, .str i, .int j => if i.length ≤ 1000 ∧ -1000 ≤ j ∧ j ≤ 1000 then .val (.str (strMul i j)) else .no
  | _, _, _ => .no
theorem osim_Aug (op : Operator) : OSim2 (opAug op) (uAug op) := by
  intro X h d e u w rd re
  unfold uAug
  split
  · have a := rd.int; have b := re.int; subst a; subst b; exact ⟨_, rfl, .int _⟩
  · have a := rd.str; have b := re.str; subst a; subst b; exact okIf fun z => ⟨_, rfl, .str _⟩
  · have a := rd.int; have b := re.int; subst a; subst b; exact ⟨_, rfl, .int _⟩
  · have a := rd.int; have b := re.int; subst a; subst b; exact okIf fun z => ⟨_, rfl, .int _⟩
  · have a := rd.str; have b := re.int; subst a; subst b; exact okIf fun z => ⟨_, rfl, .str _⟩
  · trivial
def vgNo : VG := fun _ _ => none
theorem simg_no {g : MG} : SimG g vgNo := fun _ _ _ _ _ _ _ _ _ q => by cases q
def viNo : VI := fun _ => .no
theorem simi_no {m : MI} : SimI m viNo := fun _ _ _ _ _ => trivial
theorem simt_no {m : MT} : Sim (rEq Bool) m tNoV := fun _ _ _ _ _ => trivial
end
end PyI

namespace PyI
noncomputable section
open PySem PySem.Spec L2
/-! ### a, *b = t -/
def vgStM (w : List VG) : VG := fun u su => match u with
  | .tup us => if w.length ≤ us.length + 1 ∧ 1 ≤ w.length then vgs w (us.take (w.length - 1) ++ [.lst (us.drop (w.length - 1))]) su else none
  | _ => none
theorem simg_st {l : List MG} {w : List VG} (a : SimGs l w) : SimG (gStM l) (vgStM w) := fun F h s su d u e r su' q => by
  unfold vgStM at q
  split at q
  · split at q
    · rename_i us hl
      cases r with
      | tup r =>
        rename_i ds
        have r2 : URels (XX F s su) (h ++ [.lst (ds.drop (w.length - 1))]) ds us := r.mono (fun m z => .inl z) fun m o _ z => app_get z
        have rn : URel (XX F s su) (h ++ [.lst (ds.drop (w.length - 1))]) (.ref h.length) (.lst (us.drop (w.length - 1))) := .lst (fun z => by have := e.xlt _ z; omega) (by simp) (r2.drop _)
        obtain ⟨s', h', e1, g, er⟩ := simgs a e.app ((r2.take (w.length - 1)).append (.cons rn .nil)) q
        refine ⟨s', h', ?_, Go.app.trans g, er⟩
        show (if _ then _ else _) = _
        rw [if_pos (by rw [r.length, a.length]; exact hl), a.length]
        exact e1
    · cases q
  · cases q
end
end PyI

namespace PyI
noncomputable section
open PySem PySem.Spec L2
/-! ### a def that changes its first list, a new one, with further arguments -/
def vCallTs (v : VF) (a : VE) (l : List VE) : VE := fun su => (a su).bind fun p su1 => match p.2 with
  | .tmp => (vEsc l su1).bind fun us su2 => callV (v (p.1 :: us)) su2
  | _ => .no
section
variable {F : Fm} {h h1 h2 h' : DH} {s s1 s2 : DS} {su su0 su1 su2 : US} {d : D} {u : U}
theorem URels.trs {X : Nat → Prop} {ds : List D} {us : List U} : URels X h ds us → TRs X h ds us
  | .nil => .nil
  | .cons a b => .cons (.inl a) (URels.trs b)
theorem URels.ne {X : Nat → Prop} {n : Nat} (hn : X n) : ∀ {ds : List D} {us : List U}, URels X h ds us → ∀ d ∈ ds, d ≠ .ref n
  | _, _, .nil, d, hd => by cases hd
  | _, _, .cons a b, d, hd => by
    rcases List.mem_cons.mp hd with rfl | hd
    · intro z; subst z; cases a with | lst nx _ _ => exact nx hn | edi nx _ => exact nx hn
    · exact URels.ne hn b d hd
theorem sim_callTs {G : List D → DH → Res D} {v : VF} {np n : Nat} {pm : List Nat} {a : ME} {w : VE} {l : List ME} {wl : List VE} (f : FSim1 G v) (q : Sim rK a w) (ql : SimL rK l wl) (hp : pm = List.range' 0 np) (hn : l.length + 1 = n) (hnp : n = np) : Sim rK (mCallK G np n 0 pm (a :: l) []) (vCallTs v w wl) := fun F h s su e => by
  subst hp; subst hnp; subst hn
  have eq : mCallK G (l.length + 1) (l.length + 1) 0 (List.range' 0 (l.length + 1)) (a :: l) [] s h = (a s h).bind fun d h1 => (mArgs l s h1).bind fun ds h2 => G (d :: ds) h2 := by
    show (((a s h).bind fun x h1 => (mArgs l s h1).bind fun xs h2 => Res.ok (x :: xs) h2).bind fun xs h1 => (Res.ok [] h1).bind fun zs h2 => _) = _
    cases a s h with
    | ok x h1 =>
      rw [bind_ok, bind_ok]
      cases zz : mArgs l s h1 with
      | ok ds h2 =>
        rw [bind_ok, bind_ok, bind_ok, bind_ok]
        have hl := mArgs_len zz
        rw [if_pos (by simp [hl]), List.append_nil, ids_pick _ _ _ (by simp [hl])]
        dsimp only
        rw [if_pos (by simp [hl]), List.drop_zero, List.take_of_length_le (by simp [hl])]
      | exc x h1 => rfl
      | no => rfl
    | exc x h1 => rfl
    | no => rfl
  rw [eq]
  have qq := q F h s su e
  unfold vCallTs
  cases z : w su with
  | ok p su1 =>
    rw [z] at qq
    obtain ⟨d, h1, e0, g1, e1, r1⟩ := qq
    rw [e0, bind_ok, rg_ok]
    obtain ⟨u, k⟩ := p
    cases k with
    | tmp =>
      obtain ⟨n, us, rfl, rfl, hl, hb, hp, e2, r⟩ := r1
      have qe := sim_esc ql (F.add n) h1 s su1 e2
      show OkG rK F h s su ((mArgs l s h1).bind fun ds h2 => G (.ref n :: ds) h2) ((vEsc wl su1).bind fun us2 su2 => callV (v (.lst us :: us2)) su2)
      cases ze : vEsc wl su1 with
      | ok us2 su2 =>
        rw [ze] at qe
        obtain ⟨ds, h2, e3, g2, e4, r4⟩ := qe
        rw [e3, bind_ok, rg_ok]
        have rr : LR (XX (F.add n) s su2) h2 n us := g2.lr (fun z => by have := e1.wb n z; omega) (ER.notWr e2) r
        have fs := f (XX (F.add n) s su2) h2 n us ds us2 e4.xlt (.inl (.inr rfl)) rr (URels.trs r4) (URels.ne (.inl (.inr rfl)) r4)
        have g12 : Go F h s su h2 s su2 := g1.trans g2.subP
        have go : ∀ {h' : DH}, h2.length ≤ h'.length → (∀ (m : Nat) (o : O), m ≠ n → h2[m]? = some o → h'[m]? = some o) → Go F h s su h' s su2 := fun hl' hh => by
          refine ⟨Nat.le_trans g12.le hl', fun m o e nw nr => hh m o (fun z => ?_) (g12.fr m o e nw nr), g12.gw, g12.gx, g12.lt⟩
          subst z
          have := lt_of_get e; omega
        cases zz : v (.lst us :: us2) with
        | ok u2 fr o =>
          rw [zz] at fs
          obtain ⟨d, h', e5, hl', hh, _, rr⟩ := fs
          cases fr with
          | true =>
            obtain ⟨k, us3, rfl, rfl, hk, hk', r⟩ := rr
            refine ⟨_, h', e5, go hl' hh, er_at e4 hb hl' hh, k, us3, rfl, rfl, Nat.le_trans g12.le hk, Nat.le_trans e4.bl hk, fun z => ?_, er_atP e4 hb hl' hh hk hk', r.less fun m z => ?_⟩
            · have := e4.pb k (.inl z); omega
            · rcases xx_addI z with z | z
              · exact .inl (xx_add z)
              · exact .inr z
          | false =>
            exact ⟨d, h', e5, go hl' hh, er_at e4 hb hl' hh, URel.less (fun m z => xx_add z) rr⟩
        | exc x o =>
          rw [zz] at fs
          obtain ⟨d, h', e5, hl', hh, _, rr⟩ := fs
          exact ⟨d, h', e5, go hl' hh, er_at e4 hb hl' hh, frels_less (fun m z => xx_add z) rr⟩
        | no => trivial
      | exc x su2 =>
        rw [ze] at qe
        obtain ⟨ds, h2, e3, g2, e4, r4⟩ := qe
        rw [e3]
        exact ⟨ds, h2, rfl, g1.trans g2.subP, e4.sub, frels_less (fun m z => xx_add z) r4⟩
      | no => trivial
    | _ => trivial
  | exc x su1 =>
    rw [z] at qq
    obtain ⟨d, h1, e0, g1, e1, r1⟩ := qq
    rw [e0]
    exact ⟨d, h1, rfl, g1, e1, r1⟩
  | no => trivial
end
end
end PyI
-- PyZ
/-! PyZ: heights and rows -/
namespace PyI
noncomputable section
open PySem PySem.Spec L2
/-- a list of heights -/
structure HL (L : List Int) : Prop where
  nd : L.Nodup
  rg : ∀ x ∈ L, 1 ≤ x ∧ x ≤ 999
theorem HL.perm {L M : List Int} (h : HL L) (p : M.Perm L) : HL M := ⟨p.nodup_iff.mpr h.nd, fun x hx => h.rg x (p.mem_iff.mp hx)⟩
def rgL (u v : Int) : List Int := (List.range (v - u).toNat).map fun i => u + (i : Nat)
theorem rgD_eq (u v : Int) : rgD u v = (rgL u v).map D.int := by
  unfold rgD rgL
  rw [List.map_map]
  rfl
theorem rgL_len (u v : Int) : (rgL u v).length = (v - u).toNat := by
  unfold rgL
  rw [List.length_map, List.length_range]
theorem rgL_mem {u v x : Int} (h : x ∈ rgL u v) : u ≤ x ∧ x < v := by
  unfold rgL at h
  obtain ⟨i, hi, rfl⟩ := List.mem_map.mp h
  have := List.mem_range.mp hi
  omega
theorem rgL_nd (u v : Int) : (rgL u v).Nodup := by
  unfold rgL
  rw [List.nodup_iff_pairwise_ne, List.pairwise_map]
  refine (List.nodup_iff_pairwise_ne.mp List.nodup_range).imp fun {a b} hab => ?_
  intro e
  exact hab (by omega)
theorem intsOf_map : ∀ L : List Int, intsOf (L.map D.int) = some L
  | [] => rfl
  | x :: r => by
    show (intsOf (r.map D.int)).map (x :: ·) = _
    rw [intsOf_map r]
    rfl
section
variable {h : DH} {n m : Nat} {xs : List D}
theorem mth_pop (e : h[m]? = some (.lst xs)) : mthOf "pop" (.ref m) h = some .pop := by
  unfold mthOf
  dsimp only
  rw [e]
  rfl
theorem mth_append (e : h[m]? = some (.lst xs)) : mthOf "append" (.ref m) h = some .append := by
  unfold mthOf
  dsimp only
  rw [e]
  rfl
theorem mth_index (e : h[m]? = some (.lst xs)) : mthOf "index" (.ref m) h = some .lindex := by
  unfold mthOf
  dsimp only
  rw [e]
  rfl
theorem mth_extend (e : h[m]? = some (.lst xs)) : mthOf "extend" (.ref m) h = some .extend := by
  unfold mthOf
  dsimp only
  rw [e]
  rfl
theorem mth_count (e : h[m]? = some (.lst xs)) : mthOf "count" (.ref m) h = some .lcount := by
  unfold mthOf
  dsimp only
  rw [e]
  rfl
theorem mth_join {x : Str} : mthOf "join" (.str x) h = some .join := rfl
theorem pop_at {r : Int} (e : h[m]? = some (.lst xs)) (h0 : 0 ≤ r) (h1 : r < xs.length) (h2 : xs.length < 1000000) : mthF .pop (.ref m) [.int r] h = .ok (xs[r.toNat]'(by omega)) (h.set m (.lst (xs.eraseIdx r.toNat))) := by
  unfold mthF
  dsimp only
  rw [e]
  dsimp only
  have c : -hid 9223372036854775808 ≤ r ∧ r < hid 9223372036854775808 := by rw [hid_eq]; omega
  rw [if_pos c]
  have s : seqIndex? r xs.length = some r.toNat := by
    unfold seqIndex?
    simp [h0, h1, show ¬ r < 0 by omega]
  rw [s]
  dsimp only
  rw [List.getElem?_eq_getElem (by omega)]
  rfl
theorem append_at {d : D} (e : h[m]? = some (.lst xs)) (h2 : xs.length < 16777216) : mthF .append (.ref m) [d] h = .ok .non (h.set m (.lst (xs ++ [d]))) := by
  unfold mthF
  dsimp only
  rw [e]
  dsimp only
  rw [if_pos h2]
  rfl
theorem sorted_at {L : List Int} (e : h[m]? = some (.lst (L.map D.int))) : bltF .sorted [.ref m] h = .ok (.ref h.length) (h ++ [.lst ((isort L).map D.int)]) := by
  have q : (listOf h (.ref m)).bind intsOf = some L := by
    unfold listOf
    dsimp only
    rw [e]
    exact intsOf_map L
  unfold bltF
  dsimp only
  rw [q]
theorem sorted_tup {L : List Int} : bltF .sorted [.tup (L.map D.int)] h = .ok (.ref h.length) (h ++ [.lst ((isort L).map D.int)]) := by
  have q : (listOf h (.tup (L.map D.int))).bind intsOf = some L := intsOf_map L
  unfold bltF
  dsimp only
  rw [q]
end
theorem map_erase (f : Int → D) : ∀ (L : List Int) (k : Nat), (L.map f).eraseIdx k = (L.eraseIdx k).map f
  | [], k => rfl
  | x :: r, 0 => rfl
  | x :: r, k + 1 => by
    show f x :: (r.map f).eraseIdx k = f x :: (r.eraseIdx k).map f
    rw [map_erase f r k]
theorem Fr.setNew {n m : Nat} {h h' : DH} {o : O} (f : Fr n h h') (hm : h.length ≤ m) : Fr n h (h'.set m o) := ⟨by rw [List.length_set]; exact f.le, fun j u hj e => by
  have := (List.getElem?_eq_some_iff.mp e).1
  rw [List.getElem?_set_ne (by omega)]
  exact f.old j u hj e⟩
theorem erase_split {L : List Int} {k : Nat} (hk : k < L.length) : (L[k] :: L.eraseIdx k).Perm L := by
  rw [List.eraseIdx_eq_take_drop_succ]
  have e : L = L.take k ++ (L[k] :: L.drop (k + 1)) := by rw [List.getElem_cons_drop, List.take_append_drop]
  have q : (L[k] :: (L.take k ++ L.drop (k + 1))).Perm (L.take k ++ (L[k] :: L.drop (k + 1))) := List.perm_middle.symm
  rwa [← e] at q
def HeightsPost (h : DH) (n : Nat) (z : Int) (d : D) (h' : DH) : Prop := ∃ m L, d = .ref m ∧ h.length ≤ m ∧ h'[m]? = some (.lst (L.map D.int)) ∧ (L.length : Int) = z ∧ HL L ∧ Pool h' n ∧ Fr n h h'
def HeightsOk (F : List D → DH → Res D) : Prop := ∀ (h : DH) (n : Nat) (z : Int), Pool h n → 1 ≤ z → z ≤ 999 → wpR (F [.ref n, .int z] h) (HeightsPost h n z) fun _ _ => False
theorem Pool.lt {h : DH} {n : Nat} (p : Pool h n) : n < h.length := let ⟨_, _, _, e, _⟩ := p.ex; (List.getElem?_eq_some_iff.mp e).1
theorem Pool.set {h : DH} {n m : Nat} {o : O} (p : Pool h n) (hm : n ≠ m) : Pool (h.set m o) n := let ⟨a, b, c, e, r⟩ := p.ex; ⟨a, b, c, by rw [List.getElem?_set_ne (Ne.symm hm)]; exact e, r⟩
theorem heights_ok {D1 : List D → DH → Res D} (dr : DrawOk D1) {h : DH} {n : Nat} {z : Int} (p : Pool h n) (z0 : 1 ≤ z) (z1 : z ≤ 999) : wpR (runB (h_heights D1) 5 [.ref n, .int z] h) (HeightsPost h n z) fun _ _ => False := by
  simp [h_heights]
  refine wpR_mono (dr h n 4 p (by decide) (by decide)) fun d h1 hd => ?_
  obtain ⟨r, rfl, r0, r1, p1, f1, l1⟩ := hd
  have pl := p1.lt
  have r1' : rgOk 1 (z + 1) = true := by unfold rgOk smallI; rw [hid_eq]; simp; omega
  have r2' : rgOk (1000 - z) 1000 = true := by unfold rgOk smallI; rw [hid_eq]; simp; omega
  have r3' : rgOk 1 1000 = true := by unfold rgOk smallI; rw [hid_eq]; decide +kernel
  have s1 : smallI z = true := by unfold smallI; rw [hid_eq]; simp; omega
  have give : ∀ u v : Int, rgOk u v = true → 1 ≤ u → v ≤ 1000 → v - u = z → HeightsPost h n z (.ref h1.length) (h1 ++ [.lst (rgD u v)]) := fun u v _ hu hv hz =>
    ⟨h1.length, rgL u v, rfl, by omega, by rw [rgD_eq]; simp, by rw [rgL_len]; omega, ⟨rgL_nd _ _, fun x hx => by have := rgL_mem hx; omega⟩, p1.app, f1.trans Fr.app⟩
  simp [r1', r2', r3', s1]
  split
  · exact give _ _ r1' (by omega) (by omega) (by omega)
  · split
    · exact give _ _ r2' (by omega) (by omega) (by omega)
    · have len := rgL_len 1 1000
      refine lc_fix (fun i acc hh => ∃ L M : List Int, acc = L.map D.int ∧ L.length = i ∧ hh[h1.length]? = some (.lst (M.map D.int)) ∧ (L ++ M).Perm (rgL 1 1000) ∧ Pool hh n ∧ Fr n h hh ∧ h1.length < hh.length) ?_ (by omega) (fun i acc hh hi inv => ?_) fun acc hh inv => ?_
      · exact ⟨[], rgL 1 1000, rfl, rfl, by rw [rgD_eq]; simp, by simp, p1.app, f1.trans Fr.app, by simp⟩
      · obtain ⟨L, M, rfl, hL, hM, pm, pp, ff, hlt⟩ := inv
        have hc := pm.length_eq
        rw [List.length_append, len] at hc
        have hMl : M.length = 999 - i := by omega
        have hi2 : i < 999 := by omega
        simp [mth_pop hM, hM]
        refine wpR_mono (dr hh n M.length pp (by omega) (by omega)) fun d h2 hd => ?_
        obtain ⟨k, rfl, k0, k1, p2, f2, l2⟩ := hd
        have e2 : h2[h1.length]? = some (.lst (M.map D.int)) := f2.old _ _ (by omega) hM
        have hk : k.toNat < M.length := by omega
        rw [pop_at e2 k0 (by simpa using k1) (by simp; omega)]
        simp
        refine ⟨by omega, L ++ [M[k.toNat]], by simp, by simp [hL], M.eraseIdx k.toNat, ?_, ?_, p2.set (by omega), (ff.trans f2).setNew (by omega), by omega⟩
        · rw [List.getElem?_set_self (by omega), map_erase]
        · rw [List.append_assoc]
          exact ((erase_split hk).append_left L).trans pm
      · obtain ⟨L, M, rfl, hL, hM, pm, pp, ff, hlt⟩ := inv
        rw [sorted_at (L := L) (by simp)]
        simp
        have hl : HL (rgL 1 1000) := ⟨rgL_nd _ _, fun x hx => by have := rgL_mem hx; omega⟩
        have hl2 : HL L := ⟨((pm.nodup_iff.mpr hl.nd).sublist (List.sublist_append_left L M)), fun x hx => hl.rg x (pm.mem_iff.mp (List.mem_append_left M hx))⟩
        refine ⟨_, isort L, rfl, ?_, by simp, ?_, hl2.perm (isort_perm L), ?_, ?_⟩
        · have := ff.le
          simp
          omega
        · rw [(isort_perm L).length_eq]
          omega
        · exact pp.app
        · exact ff.trans Fr.app
/-- a row -/
def RowPost (h : DH) (n : Nat) (lo hi : Int) (d : D) (h' : DH) : Prop := ∃ L : List Int, d = .tup (L.map D.int) ∧ lo ≤ L.length ∧ (L.length : Int) ≤ hi ∧ HL L ∧ Pool h' n ∧ Fr n h h'
def RowOk (F : List D → DH → Res D) : Prop := ∀ (h : DH) (n : Nat) (lo hi : Int), Pool h n → 1 ≤ lo → lo ≤ hi → hi ≤ 999 → wpR (F [.ref n, .int lo, .int hi] h) (RowPost h n lo hi) fun _ _ => False
theorem row_ok {D1 H1 : List D → DH → Res D} (dr : DrawOk D1) (ho : HeightsOk H1) {h : DH} {n : Nat} {lo hi : Int} (p : Pool h n) (z0 : 1 ≤ lo) (z1 : lo ≤ hi) (z2 : hi ≤ 999) : wpR (runB (h_row D1 H1) 6 [.ref n, .int lo, .int hi] h) (RowPost h n lo hi) fun _ _ => False := by
  simp [h_row]
  refine wpR_mono (dr h n (hi - lo + 1) p (by omega) (by omega)) fun d h1 hd => ?_
  obtain ⟨r, rfl, r0, r1, p1, f1, l1⟩ := hd
  simp
  refine wpR_mono (ho h1 n (lo + r) p1 (by omega) (by omega)) fun d h2 hd => ?_
  obtain ⟨m, L, rfl, hm, eL, lL, hl, p2, f2⟩ := hd
  have pl := p2.lt
  have hm2 : m < h2.length := (List.getElem?_eq_some_iff.mp eL).1
  have eL' : (h2 ++ [O.lst []])[m]? = some (.lst (L.map D.int)) := by rw [List.getElem?_append_left hm2]; exact eL
  have sm : smallI (L.length : Int) = true := by unfold smallI; rw [hid_eq]; simp; omega
  have pn := p.lt
  simp [eL', sm]
  refine for_fix (fun i s hh => ∃ (A M : List Int) (v : Option D), s = [some (.ref n), some (.int lo), some (.int hi), v, some (.ref m), some (.ref h2.length)] ∧ A.length = i ∧ List.Perm (A ++ M) L ∧ hh[m]? = some (.lst (M.map D.int)) ∧ hh[h2.length]? = some (.lst (A.map D.int)) ∧ Pool hh n ∧ Fr n h hh)
    ⟨[], L, none, rfl, rfl, by simp, eL', by simp, p2.app, (f1.trans f2).trans Fr.app⟩ (by omega) (fun i s hh hi' inv => ?_) fun s hh inv => ?_
  · obtain ⟨A, M, v, rfl, hA, pm, eM, eA, pp, ff⟩ := inv
    have hc := pm.length_eq
    rw [List.length_append] at hc
    simp [mth_append eA, mth_pop eM, eM]
    refine wpR_mono (dr hh n M.length pp (by omega) (by omega)) fun d h3 hd => ?_
    obtain ⟨k, rfl, k0, k1, p3, f3, l3⟩ := hd
    have e3 : h3[m]? = some (.lst (M.map D.int)) := f3.old _ _ (by omega) eM
    have a3 : h3[h2.length]? = some (.lst (A.map D.int)) := f3.old _ _ (by omega) eA
    have hk : k.toNat < M.length := by omega
    have hlt : h2.length < h3.length := (List.getElem?_eq_some_iff.mp a3).1
    rw [pop_at e3 k0 (by simpa using k1) (by simp; omega)]
    have a4 : (h3.set m (.lst ((M.map D.int).eraseIdx k.toNat)))[h2.length]? = some (.lst (A.map D.int)) := by rw [List.getElem?_set_ne (by omega)]; exact a3
    simp
    rw [append_at a4 (by simp; omega)]
    simp
    refine ⟨A ++ [M[k.toNat]], by simp [hA], M.eraseIdx k.toNat, ?_, ?_, ?_, ?_, ?_⟩
    · rw [List.append_assoc]
      exact ((erase_split hk).append_left A).trans pm
    · rw [List.getElem?_set_ne (by omega), List.getElem?_set_self (by omega), map_erase]
    · rw [List.getElem?_set_self (by simp; omega)]
      simp
    · exact (p3.set (by omega)).set (by omega)
    · exact ((ff.trans f3).setNew (by have := f1.le; omega)).setNew (by have := f1.le; have := f2.le; omega)
  · obtain ⟨A, M, v, rfl, hA, pm, eM, eA, pp, ff⟩ := inv
    have hc := pm.length_eq
    rw [List.length_append] at hc
    have hM : M = [] := List.length_eq_zero_iff.mp (by omega)
    subst hM
    simp [eA]
    refine ⟨A, rfl, by omega, by omega, hl.perm (by simpa using pm), pp, ff⟩
end
end PyI
-- PvS
/-! PvS: how the value mirrors are run by simp -/
namespace PyI
noncomputable section
open PySem PySem.Spec L2
def seqV (r : SV) (b : VS) : SV := match r with
  | .nx su => b su
  | r => r
section
variable {su : US} {a b c : VE} {u : U} {k : Kd} {i j : Nat} {α β : Type}
@[simp] theorem seq_nx {v : VS} : seqV (.nx su) v = v su := rfl
@[simp] theorem seq_rt {v : VS} {f : Bool} : seqV (.rt u f su) v = .rt u f su := rfl
@[simp] theorem seq_bk {v : VS} : seqV (.bk su) v = .bk su := rfl
@[simp] theorem seq_ct {v : VS} : seqV (.ct su) v = .ct su := rfl
@[simp] theorem seq_ex {v : VS} {x : XU} : seqV (.ex x su) v = .ex x su := rfl
@[simp] theorem seq_no {v : VS} : seqV .no v = .no := rfl
@[simp] theorem seq_ite {v : VS} {p : Prop} [Decidable p] {x y : SV} : seqV (if p then x else y) v = if p then seqV x v else seqV y v := by split <;> rfl
@[simp] theorem rgb_ite {p : Prop} [Decidable p] {x y : RG α} {f : α → US → RG β} : RG.bind (if p then x else y) f = if p then x.bind f else y.bind f := by split <;> rfl
@[simp] theorem bv_ite {p : Prop} [Decidable p] {x y : RG α} {f : α → US → SV} : bindV (if p then x else y) f = if p then bindV x f else bindV y f := by split <;> rfl
@[simp] theorem out_ite {p : Prop} [Decidable p] {x y : VO} : outV (if p then x else y) su = if p then outV x su else outV y su := by split <;> rfl
@[simp] theorem bv_bind {γ : Type} {x : RG α} {f : α → US → RG γ} {g : γ → US → SV} : bindV (x.bind f) g = bindV x fun a su => bindV (f a su) g := by cases x <;> rfl
@[simp] theorem rg_assoc {γ : Type} {x : RG α} {f : α → US → RG γ} {g : γ → US → RG β} : (x.bind f).bind g = x.bind fun a su => (f a su).bind g := by cases x <;> rfl
@[simp] theorem seq_bv {x : RG α} {f : α → US → SV} {v : VS} : seqV (bindV x f) v = bindV x fun a su => seqV (f a su) v := by cases x <;> rfl
@[simp] theorem v_seq {x y : VS} : vSeq x y su = seqV (x su) y := by unfold vSeq; cases x su <;> rfl
@[simp] theorem v_next : vNext su = .nx su := rfl
@[simp] theorem v_stNo : vStNo su = .no := rfl
@[simp] theorem v_brk : vBrk su = .bk su := rfl
@[simp] theorem v_cnt : vCnt su = .ct su := rfl
@[simp] theorem v_asg : vAsg a i su = bindV (a su) (stV i) := rfl
@[simp] theorem v_drop : vDrop a su = bindV (a su) fun _ su1 => .nx su1 := rfl
def retP (p : U × Kd) (su1 : US) : SV := match p.2 with
  | .tmp => .rt p.1 true su1
  | .view i => match su1[i]? with
    | some (some (u, .own)) => .rt u true su1
    | _ => .no
  | _ => bindV (escV p su1) fun u su2 => .rt u false su2
@[simp] theorem v_ret : vRet a su = bindV (a su) retP := rfl
@[simp] theorem ret_tmp : retP (u, .tmp) su = .rt u true su := rfl
@[simp] theorem ret_shr : retP (u, .shr) su = .rt u false su := rfl
@[simp] theorem ret_bor : retP (u, .bor) su = if imm u = true then .rt u false su else .no := by
  show bindV (escV (u, .bor) su) _ = _
  rw [esc_bor]; split <;> rfl
@[simp] theorem ret_view : retP (u, .view i) su = match su[i]? with
    | some (some (u, .own)) => .rt u true su
    | _ => .no := rfl
@[simp] theorem v_retN : vRetN su = .rt .non false su := rfl
@[simp] theorem v_ifS {t : VT} {x y : VS} : vIfS t x y su = bindV (t su) fun k su1 => if k = true then x su1 else y su1 := rfl
@[simp] theorem v_asgG {g : VG} : vAsgG a g su = bindV (a su) fun p su1 => bindV (escV p su1) fun u su2 => match g u su2 with
  | some su3 => .nx su3
  | none => .no := rfl
@[simp] theorem v_par {ix : List Nat} {l : List VE} : vPar ix l su = bindV (vParA l su) fun ps su1 => if ps.length = ix.length then .nx (setAll ix ps su1) else .no := rfl
@[simp] theorem par_nil : vParA [] su = .ok [] su := rfl
def parP (r : List VE) (p : U × Kd) (su1 : US) : RG (List (U × Bool)) := match p.2 with
    | .tmp => (vParA r su1).bind fun us su2 => .ok ((p.1, true) :: us) su2
    | _ => (escV p su1).bind fun u su2 => (vParA r su2).bind fun us su3 => .ok ((u, false) :: us) su3
@[simp] theorem par_cons {r : List VE} : vParA (a :: r) su = (a su).bind (parP r) := rfl
@[simp] theorem parP_tmp {r : List VE} : parP r (u, .tmp) su = (vParA r su).bind fun us su2 => .ok ((u, true) :: us) su2 := rfl
@[simp] theorem parP_shr {r : List VE} : parP r (u, .shr) su = (vParA r su).bind fun us su3 => .ok ((u, false) :: us) su3 := rfl
@[simp] theorem parP_bor {r : List VE} : parP r (u, .bor) su = (escV (u, .bor) su).bind fun u su2 => (vParA r su2).bind fun us su3 => .ok ((u, false) :: us) su3 := rfl
@[simp] theorem parP_view {r : List VE} : parP r (u, .view i) su = (escV (u, .view i) su).bind fun u su2 => (vParA r su2).bind fun us su3 => .ok ((u, false) :: us) su3 := rfl
@[simp] theorem all_nil {ps : List (U × Bool)} : setAll [] ps su = su := by cases ps <;> rfl
@[simp] theorem all_cons {ix : List Nat} {p : U × Bool} {ps : List (U × Bool)} : setAll (i :: ix) (p :: ps) su = setAll ix ps (su.set i (some (p.1, flOf p.2))) := rfl
@[simp] theorem flOf_t : flOf true = .own := rfl
@[simp] theorem flOf_f : flOf false = .shr := rfl
@[simp] theorem v_lit : vLit u su = .ok (u, .shr) su := rfl
@[simp] theorem v_no : vNo su = .no := rfl
@[simp] theorem v_var : vVar i su = match su[i]? with
  | some (some (u, f)) => .ok (u, kdOf i f) su
  | _ => .no := rfl
@[simp] theorem kd_own : kdOf i .own = .view i := rfl
@[simp] theorem kd_io : kdOf i .io = .view i := rfl
@[simp] theorem kd_lent : kdOf i .lent = .bor := rfl
@[simp] theorem kd_bor : kdOf i .bor = .bor := rfl
@[simp] theorem kd_shr : kdOf i .shr = .shr := rfl
@[simp] theorem pend_tmp : pend (u, .tmp) su = True := rfl
@[simp] theorem pend_shr : pend (u, .shr) su = True := rfl
@[simp] theorem pend_bor : pend (u, .bor) su = True := rfl
@[simp] theorem pend_view : pend (u, .view i) su = (su[i]? = some (some (u, .own)) ∨ su[i]? = some (some (u, .io))) := rfl
open Classical in
@[simp] theorem v_bin {f : U → U → VO} : vBin f a b su = (a su).bind fun p su1 => (b su1).bind fun q su2 => if pend p su2 then outV (f p.1 q.1) su2 else .no := rfl
@[simp] theorem v_neg : vNeg a su = (a su).bind fun p su1 => match p.1 with
  | .int i => .ok (.int (-i), .shr) su1
  | _ => .no := rfl
@[simp] theorem asB_bl {x : Bool} : asBV (.ok (.bl x, k) su) = .ok x su := rfl
@[simp] theorem asB_no : asBV .no = .no := rfl
@[simp] theorem asB_exc {x : XU} : asBV (.exc x su) = .exc x su := rfl
@[simp] theorem asB_ite {p : Prop} [Decidable p] {x y : RG (U × Kd)} : asBV (if p then x else y) = if p then asBV x else asBV y := by split <;> rfl
@[simp] theorem asB_bind {x : RG α} {f : α → US → RG (U × Kd)} : asBV (x.bind f) = x.bind fun a su => asBV (f a su) := by cases x <;> rfl
@[simp] theorem v_notE : vNotE a su = (asBV (a su)).bind fun b su1 => .ok (.bl (!b), .shr) su1 := rfl
@[simp] theorem v_andE0 : vAndE [a] su = a su := rfl
@[simp] theorem v_andE {r : List VE} : vAndE (a :: b :: r) su = (asBV (a su)).bind fun k su1 => if k = true then vAndE (b :: r) su1 else .ok (.bl false, .shr) su1 := rfl
@[simp] theorem v_orE0 : vOrE [a] su = a su := rfl
@[simp] theorem v_orE {r : List VE} : vOrE (a :: b :: r) su = (asBV (a su)).bind fun k su1 => if k = true then .ok (.bl true, .shr) su1 else vOrE (b :: r) su1 := rfl
variable {t t' : VT}
@[simp] theorem v_andT0 : vAndT [t] su = t su := rfl
@[simp] theorem v_andT {r : List VT} : vAndT (t :: t' :: r) su = (t su).bind fun k su1 => if k = true then vAndT (t' :: r) su1 else .ok false su1 := rfl
@[simp] theorem v_orT0 : vOrT [t] su = t su := rfl
@[simp] theorem v_orT {r : List VT} : vOrT (t :: t' :: r) su = (t su).bind fun k su1 => if k = true then .ok true su1 else vOrT (t' :: r) su1 := rfl
@[simp] theorem v_notT : vNotT t su = (t su).bind fun b su1 => .ok (!b) su1 := rfl
@[simp] theorem v_B : vB a su = asBV (a su) := rfl
@[simp] theorem v_tru : vTru a su = (a su).bind fun p su1 => match truU p.1 with
  | some b => .ok b su1
  | none => .no := rfl
@[simp] theorem v_yes : vYes su = .ok true su := rfl
@[simp] theorem v_if : vIf t a b su = (t su).bind fun k su1 => if k = true then a su1 else b su1 := rfl
open Classical in
@[simp] theorem v_chain {f g : U → U → VO} : vChain f g a b c su = (a su).bind fun p su1 => (b su1).bind fun q su2 => if pend p su2 then (asBV (outV (f p.1 q.1) su2)).bind fun k su3 => if k = true then (c su3).bind fun r su4 => if pend q su4 then outV (g q.1 r.1) su4 else .no else .ok (.bl false, .shr) su3 else .no := rfl
@[simp] theorem v_args0 : vArgs [] su = .ok [] su := rfl
open Classical in
@[simp] theorem v_args {r : List VE} : vArgs (a :: r) su = (a su).bind fun p su1 => (vArgs r su1).bind fun us su2 => if pend p su2 then .ok (p.1 :: us) su2 else .no := rfl
@[simp] theorem v_args10 : vArgs1 i [] su = .ok [] su := rfl
open Classical in
@[simp] theorem v_args1 {r : List VE} : vArgs1 i (a :: r) su = (a su).bind fun p su1 => (vArgs1 i r su1).bind fun us su2 => if pend p su2 ∧ isView i p.2 = false then .ok (p.1 :: us) su2 else .no := rfl
@[simp] theorem isv_tmp : isView i .tmp = false := rfl
@[simp] theorem isv_shr : isView i .shr = false := rfl
@[simp] theorem isv_bor : isView i .bor = false := rfl
@[simp] theorem isv_view : isView i (.view j) = decide (j = i) := rfl
@[simp] theorem v_esc0 : vEsc [] su = .ok [] su := rfl
@[simp] theorem v_esc {r : List VE} : vEsc (a :: r) su = (a su).bind fun p su1 => (escV p su1).bind fun u su2 => (vEsc r su2).bind fun us su3 => .ok (u :: us) su3 := rfl
@[simp] theorem esc_view : escV (u, .view i) su = match su[i]? with
    | some (some (u, .own)) => .ok u (su.set i (some (u, .shr)))
    | _ => .no := rfl
@[simp] theorem v_tup {l : List VE} : vTup l su = (vEsc l su).bind fun us su1 => if us.length ≤ 16777216 then .ok (.tup us, .shr) su1 else .no := rfl
@[simp] theorem v_lst {l : List VE} : vLst l su = (vEsc l su).bind fun us su1 => if us.length ≤ 16777216 then .ok (.lst us, .tmp) su1 else .no := rfl
@[simp] theorem v_part : vPart a su = (a su).bind fun p su1 => match p.1 with
  | .int i => .ok (some i) su1
  | _ => .no := rfl
@[simp] theorem v_none : vNone su = .ok none su := rfl
open Classical in
@[simp] theorem v_sl {lo hi : VP} : vSl a lo hi su = (a su).bind fun p su1 => (lo su1).bind fun l su2 => (hi su2).bind fun u su3 => if pend p su3 then outV (uSl p.1 l u) su3 else .no := rfl
@[simp] theorem v_rev : vRev a su = (a su).bind fun p su1 => match p.1 with
  | .lst l => .ok (.lst l.reverse, .tmp) su1
  | .tup l => .ok (.tup l.reverse, .shr) su1
  | .str z => if z.length ≤ 16777216 then .ok (.str (revS z), .shr) su1 else .no
  | _ => .no := rfl
@[simp] theorem v_sortLen : vSortLen a su = (a su).bind fun p su1 => match p.1 with
  | .lst l => match strsU l with
    | some ss => if ss.all (fun z => decide (z.length ≤ 16777216)) = true then .ok (.lst ((ss.mergeSort lenLe).map .str), .tmp) su1 else .no
    | none => .no
  | _ => .no := rfl
@[simp] theorem v_tupIx {us : List U} : vTupIx us a su = (a su).bind fun p su1 => outV (if flatU p.1 && us.all flatU then valO ((idxFU p.1 us).map fun k => .int (k : Nat)) else .no) su1 := rfl
@[simp] theorem v_blt {b : Blt} {l : List VE} : vBlt b l su = (vArgs l su).bind fun us su1 => outV (bltU b us) su1 := rfl
open Classical in
@[simp] theorem v_meth {nm : Str} {l : List VE} : vMeth nm a l su = (a su).bind fun p su1 => match mthOfU nm p.1 with
  | some m => (vArgs l su1).bind fun us su2 => if pend p su2 then outV (mthU m p.1 us) su2 else .no
  | none => .no := rfl
@[simp] theorem v_lstRg {l : List VE} : vLstRg l su = (vArgs l su).bind fun us su1 => match rgArgU us with
  | some p => if rgOk p.1 p.2 = true then .ok (.lst (rgU p.1 p.2), .tmp) su1 else .no
  | none => .no := rfl
@[simp] theorem v_tupRg {l : List VE} : vTupRg l su = (vArgs l su).bind fun us su1 => match rgArgU us with
  | some p => if rgOk p.1 p.2 = true then .ok (.tup (rgU p.1 p.2), .shr) su1 else .no
  | none => .no := rfl
@[simp] theorem rga1 {j : Int} : rgArgU [.int j] = some (0, j) := rfl
@[simp] theorem rga2 {i j : Int} : rgArgU [.int i, .int j] = some (i, j) := rfl
@[simp] theorem rng1 {j : Int} : rng1U [.int j] = if smallI j = true then some (rgU 0 j) else none := rfl
@[simp] theorem rng2 {i j : Int} : rng2U [.int i, .int j] = if (smallI i && smallI j) = true then some (rgU i j) else none := rfl
@[simp] theorem v_call {v : VF} {pm : List Nat} {l : List VE} : vCall v pm l su = (vArgs l su).bind fun us su1 => match pickL pm us with
  | some ys => callV (v ys) su1
  | none => .no := rfl
@[simp] theorem v_call1 {v : VF} {l : List VE} : vCall1 v i l su = match su[i]? with
  | some (some (.lst _, _)) => (vArgs1 i l su).bind (call1V v i)
  | _ => .no := rfl
@[simp] theorem c1_call {v : VF} {us : List U} : call1V v i us su = match su[i]? with
  | some (some (.lst u0, .own)) => callV1 (v (.lst u0 :: us)) i su
  | some (some (.lst u0, .io)) => callV1 (v (.lst u0 :: us)) i su
  | _ => .no := rfl
@[simp] theorem call1_t {u o : U} : callV1 (.ok u true o) i su = putO i o su fun su => .ok (u, .tmp) su := rfl
@[simp] theorem call1_f {u o : U} : callV1 (.ok u false o) i su = putO i o su fun su => .ok (u, .shr) su := rfl
@[simp] theorem put_o {o : U} {k : US → RG (U × Kd)} : putO i o su k = match su[i]? with
  | some (some (_, .own)) => k (su.set i (some (o, .own)))
  | some (some (_, .io)) => k (su.set i (some (o, .io)))
  | _ => .no := rfl
@[simp] theorem v_callT {v : VF} : vCallT v a su = (a su).bind fun p su1 => match p.2 with
  | .tmp => callV (v [p.1]) su1
  | _ => .no := rfl
@[simp] theorem v_callTs {v : VF} {l : List VE} : vCallTs v a l su = (a su).bind fun p su1 => match p.2 with
  | .tmp => (vEsc l su1).bind fun us su2 => callV (v (p.1 :: us)) su2
  | _ => .no := rfl
@[simp] theorem g_nmV {d : U} : vgNm i d su = some (su.set i (some (d, .shr))) := rfl
@[simp] theorem g_tpL {l : List VG} {us : List U} : vgTp l (.lst us) su = if us.length = l.length then vgs l us su else none := rfl
@[simp] theorem g_tpV {l : List VG} {us : List U} : vgTp l (.tup us) su = if us.length = l.length then vgs l us su else none := rfl
@[simp] theorem g_nilV : vgs [] [] su = some su := rfl
@[simp] theorem g_consV {g : VG} {r : List VG} {us : List U} : vgs (g :: r) (u :: us) su = (g u su).bind fun su1 => vgs r us su1 := rfl
@[simp] theorem g_stV {l : List VG} {us : List U} : vgStM l (.tup us) su = if l.length ≤ us.length + 1 ∧ 1 ≤ l.length then vgs l (us.take (l.length - 1) ++ [.lst (us.drop (l.length - 1))]) su else none := rfl
@[simp] theorem g_subV {b : VE} {d : U} : vgSub i b d su = (rgO (b su)).bind fun q => match q.1.1 with
  | .int k => chg q.2 i fun xs => (ixN xs.length k).map fun j => xs.set j d
  | _ => none := rfl
@[simp] theorem rgo_ok {x : α} : rgO (.ok x su) = some (x, su) := rfl
@[simp] theorem v_chg {f : List U → Option (List U)} : chg su i f = match su[i]? with
  | some (some (.lst xs, .own)) => (f xs).map fun ys => su.set i (some (.lst ys, .own))
  | some (some (.lst xs, .io)) => (f xs).map fun ys => su.set i (some (.lst ys, .io))
  | _ => none := rfl
@[simp] theorem v_app : vApp i a su = match su[i]? with
  | some (some (.lst _, _)) => (a su).bind fun p su1 => (escV p su1).bind fun u su2 => match chg su2 i fun xs => if xs.length < 16777216 then some (xs ++ [u]) else none with
    | some su3 => .ok (.non, .shr) su3
    | none => .no
  | _ => .no := rfl
@[simp] theorem v_ext : vExt i a su = match su[i]? with
  | some (some (.lst _, _)) => (a su).bind fun p su1 => match p.1 with
    | .lst ys => match chg su1 i fun xs => if xs.length + ys.length ≤ 16777216 then some (xs ++ ys) else none with
      | some su3 => .ok (.non, .shr) su3
      | none => .no
    | _ => .no
  | _ => .no := rfl
@[simp] theorem v_pop : vPop i su = match su[i]? with
  | some (some (.lst xs, _)) => match xs[xs.length - 1]?, chg su i fun xs => some xs.dropLast with
    | some u, some su1 => .ok (u, .shr) su1
    | _, _ => .no
  | _ => .no := rfl
@[simp] theorem v_popI : vPopI i a su = match su[i]? with
  | some (some (.lst _, _)) => (a su).bind fun p su1 => match p.1, su1[i]? with
    | .int k, some (some (.lst xs, _)) => match (popIx k xs.length).bind fun j => xs[j]?, chg su1 i fun xs => (popIx k xs.length).map fun j => xs.eraseIdx j with
      | some u, some su2 => .ok (u, .shr) su2
      | _, _ => .no
    | _, _ => .no
  | _ => .no := rfl
@[simp] theorem v_plain : vPlain a su = (a su).bind lendV := rfl
@[simp] theorem v_enum : vEnum a su = (a su).bind fun p su1 => (lendV p su1).bind fun q su2 => .ok (enumU 0 q.1, q.2) su2 := rfl
open Classical in
@[simp] theorem v_zip : vZip a b su = (a su).bind fun p su1 => (b su1).bind fun q su2 => if pend p su2 then (lendV p su2).bind fun r su3 => if pend q su3 then (lendV q su3).bind fun r' su4 => .ok (zipU r.1 r'.1, r.2 ++ r'.2) su4 else .no else .no := rfl
@[simp] theorem v_revI : vRevI a su = (a su).bind fun p su1 => if noStr p.1 = true then (lendV p su1).bind fun q su2 => .ok (q.1.reverse, q.2) su2 else .no := rfl
@[simp] theorem v_range {f : List U → Option (List U)} {l : List VE} : vRange f l su = (vArgs l su).bind fun us su1 => match f us with
  | some items => .ok (items, []) su1
  | none => .no := rfl
@[simp] theorem v_revRg {l : List VE} : vRevRg l su = (vArgs l su).bind fun us su1 => match rgArgU us with
  | some p => if (smallI p.1 && smallI p.2) = true then .ok ((rgU p.1 p.2).reverse, []) su1 else .no
  | none => .no := rfl
@[simp] theorem srcv_tup {us : List U} : srcU (.tup us) = some us := rfl
@[simp] theorem srcv_lst {us : List U} : srcU (.lst us) = some us := rfl
@[simp] theorem srcv_scr {us : List Int} : srcU (.scr us) = some (us.map .int) := rfl
@[simp] theorem srcv_str {x : Str} : srcU (.str x) = some (charsU x) := rfl
@[simp] theorem nostr_tup {us : List U} : noStr (.tup us) = true := rfl
@[simp] theorem nostr_lst {us : List U} : noStr (.lst us) = true := rfl
@[simp] theorem nostr_str {z : Str} : noStr (.str z) = decide (z.length ≤ 16777216) := rfl
@[simp] theorem v_for {src : VI} {g : VG} {x : VS} : vFor src g x su = bindV (src su) fun p su1 => if p.1.length < 1000000 then endS p.2 (forV g x p.1 su1) else .no := rfl
@[simp] theorem end_nil {r : SV} : endS [] r = r := by cases r <;> rfl
@[simp] theorem end_nx {L : List Nat} : endS L (.nx su) = .nx (unlends L su) := rfl
@[simp] theorem end_rt {L : List Nat} {f : Bool} : endS L (.rt u f su) = .rt u f (unlends L su) := rfl
@[simp] theorem unl_nil : unlends [] su = su := rfl
@[simp] theorem unl_cons {L : List Nat} : unlends (i :: L) su = unlend i (unlends L su) := rfl
@[simp] theorem unl_one : unlend i su = match su[i]? with
  | some (some (u, .lent)) => su.set i (some (u, .own))
  | _ => su := rfl
@[simp] theorem for_nil {g : VG} {x : VS} : forV g x [] su = .nx su := rfl
theorem for_cons {g : VG} {x : VS} {r : List U} : forV g x (u :: r) su = match g u su with
    | none => .no
    | some su1 => match x su1 with
      | .nx su2 => forV g x r su2
      | .ct su2 => forV g x r su2
      | .bk su2 => .nx su2
      | r => r := rfl
@[simp] theorem v_lc {src : VI} {g : VG} {e : VE} {vs : List Nat} : vLc src g t e vs su = (src su).bind fun p su1 => if freeU su1 vs = true ∧ p.1.length < 1000000 then (okOnly (lcV g t e vs p.1 (wipeU su1 vs))).bind fun us su2 => .ok (.lst us, .tmp) (unlends p.2 (restoreU su1 su2 vs)) else .no := rfl
@[simp] theorem lc_nilV {g : VG} {e : VE} {vs : List Nat} : lcV g t e vs [] su = .ok [] su := rfl
theorem lc_consV {g : VG} {e : VE} {vs : List Nat} {r : List U} : lcV g t e vs (u :: r) su = match g u su with
    | none => .no
    | some su1 => (okOnly (t su1)).bind fun k su2 => if k = true then (okOnly (e su2)).bind fun p su3 => (escV p su3).bind fun u su4 => (lcV g t e vs r (wipeU su4 vs)).bind fun us su5 => .ok (u :: us) su5 else lcV g t e vs r (wipeU su2 vs) := rfl
@[simp] theorem wipe_nilU : wipeU su [] = su := rfl
@[simp] theorem wipe_consU {vs : List Nat} : wipeU su (i :: vs) = (wipeU su vs).set i none := rfl
@[simp] theorem rest_nil {su2 : US} : restoreU su su2 [] = su2 := rfl
@[simp] theorem rest_cons {su2 : US} {vs : List Nat} : restoreU su su2 (i :: vs) = (restoreU su su2 vs).set i (su.getD i none) := rfl
@[simp] theorem free_eq {vs : List Nat} : freeU su vs = vs.all fun v => match su[v]? with
  | some (some (_, .own)) => false
  | some (some (_, .lent)) => false
  | some (some (_, .io)) => false
  | _ => true := rfl
@[simp] theorem v_aug {f : U → U → VO} : vAug i f a su = match su[i]? with
  | some (some (x, fl)) => bindV (a su) fun q su1 => open Classical in if pend (x, kdOf i fl) su1 then match f x q.1 with
    | .val z => .nx (su1.set i (some (z, .shr)))
    | _ => .no else .no
  | _ => .no := rfl
@[simp] theorem o1_io {k : U → RF} {r : List (Option (U × Fl))} : out1 (some (u, .io) :: r) k = k u := rfl
end
/-! ### operators -/
theorem atu0 {α : Type} {x : α} {l : List α} : atI (x :: l) 0 = some x := by unfold atI ixN; simp
theorem atu1 {x y z : U} : atI [x, y, z] 1 = some y := rfl
theorem atu2 {x y z : U} : atI [x, y, z] 2 = some z := rfl
section
variable {i j : Int} {x y : Str} {a b : List U}
@[simp] theorem u_addI : uB .Add (.int i) (.int j) = .val (.int (i + j)) := rfl
@[simp] theorem u_addS : uB .Add (.str x) (.str y) = if x.length + y.length ≤ 16777216 then .val (.str (x ++ y)) else .no := rfl
@[simp] theorem u_addT : uB .Add (.tup a) (.tup b) = if a.length + b.length ≤ 16777216 then .val (.tup (a ++ b)) else .no := rfl
@[simp] theorem u_addL : uB .Add (.lst a) (.lst b) = if a.length + b.length ≤ 16777216 then .new (a ++ b) else .no := rfl
@[simp] theorem u_sub : uB .Sub (.int i) (.int j) = .val (.int (i - j)) := rfl
@[simp] theorem u_mul : uB .Mult (.int i) (.int j) = if mulOk i j = true then .val (.int (i * j)) else .no := rfl
@[simp] theorem u_mulS : uB .Mult (.str x) (.int i) = if x.length ≤ 1000 ∧ -1000 ≤ i ∧ i ≤ 1000 then .val (.str (strMul x i)) else .no := rfl
@[simp] theorem u_mulL : uB .Mult (.lst a) (.int i) = if -1000 ≤ i ∧ i ≤ 1000 ∧ a.length ≤ 1000 then .new (List.replicate i.toNat a).flatten else .no := rfl
@[simp] theorem u_fdiv : uB .FloorDiv (.int i) (.int j) = if 0 < j ∧ j.natAbs.log2 < 9000 then .val (.int (i / j)) else .no := rfl
@[simp] theorem u_mod : uB .Mod (.int i) (.int j) = if 0 < j then .val (.int (i % j)) else .no := rfl
@[simp] theorem u_pow : uB .Pow (.int i) (.int j) = if powOk i j = true then .val (.int (i ^ j.toNat)) else .no := rfl
@[simp] theorem u_shl : uB .LShift (.int i) (.int j) = if powOk i j = true then .val (.int (i * 2 ^ j.toNat)) else .no := rfl
@[simp] theorem u_shr : uB .RShift (.int i) (.int j) = if 0 ≤ j then .val (.int (i / 2 ^ j.toNat)) else .no := rfl
@[simp] theorem u_lt : uC .Lt (.int i) (.int j) = .val (.bl (decide (i < j))) := rfl
@[simp] theorem u_le : uC .LtE (.int i) (.int j) = .val (.bl (decide (i ≤ j))) := rfl
@[simp] theorem u_gt : uC .Gt (.int i) (.int j) = .val (.bl (decide (j < i))) := rfl
@[simp] theorem u_ge : uC .GtE (.int i) (.int j) = .val (.bl (decide (j ≤ i))) := rfl
@[simp] theorem u_eqI : uC .Eq (.int i) (.int j) = .val (.bl (decide (i = j))) := rfl
@[simp] theorem u_eqS : uC .Eq (.str x) (.str y) = .val (.bl (decide (x = y))) := rfl
@[simp] theorem u_eqB {k l : Bool} : uC .Eq (.bl k) (.bl l) = .val (.bl (decide (k = l))) := rfl
@[simp] theorem u_eqT : uC .Eq (.tup a) (.tup b) = blO (eqU (.tup a) (.tup b)) := rfl
@[simp] theorem u_eqL : uC .Eq (.lst a) (.lst b) = blO (eqU (.lst a) (.lst b)) := rfl
@[simp] theorem u_neI : uC .NotEq (.int i) (.int j) = .val (.bl (!decide (i = j))) := rfl
@[simp] theorem u_neS : uC .NotEq (.str x) (.str y) = .val (.bl (!decide (x = y))) := rfl
@[simp] theorem u_neB {k l : Bool} : uC .NotEq (.bl k) (.bl l) = .val (.bl (!decide (k = l))) := rfl
@[simp] theorem u_neT : uC .NotEq (.tup a) (.tup b) = blO ((eqU (.tup a) (.tup b)).map not) := rfl
@[simp] theorem u_neL : uC .NotEq (.lst a) (.lst b) = blO ((eqU (.lst a) (.lst b)).map not) := rfl
@[simp] theorem u_in {u w : U} : uC .In u w = blO (inU u w) := rfl
@[simp] theorem u_nin {u w : U} : uC .NotIn u w = blO ((inU u w).map not) := rfl
@[simp] theorem u_isN {u : U} : uC .Is u .non = .val (.bl (isNonU u)) := by cases u <;> rfl
@[simp] theorem u_isnN {u : U} : uC .IsNot u .non = .val (.bl (!isNonU u)) := by cases u <;> rfl
@[simp] theorem blO_some {k : Bool} : blO (some k) = .val (.bl k) := rfl
@[simp] theorem aug_addI : uAug .Add (.int i) (.int j) = .val (.int (i + j)) := rfl
@[simp] theorem aug_addS : uAug .Add (.str x) (.str y) = if x.length + y.length ≤ 16777216 then .val (.str (x ++ y)) else .no := rfl
@[simp] theorem aug_mulS {k : Int} : uAug .Mult (.str x) (.int k) = if x.length ≤ 1000 ∧ -1000 ≤ k ∧ k ≤ 1000 then .val (.str (strMul x k)) else .no := rfl
@[simp] theorem aug_sub : uAug .Sub (.int i) (.int j) = .val (.int (i - j)) := rfl
@[simp] theorem u_ixT : uI (.tup a) (.int i) = valO (atI a i) := rfl
@[simp] theorem u_ixL : uI (.lst a) (.int i) = valO (atI a i) := rfl
@[simp] theorem u_ixC {ns : List Int} : uI (.scr ns) (.int i) = valO (atI (ns.map .int) i) := rfl
@[simp] theorem u_ixS : uI (.str x) (.int i) = if x.length ≤ 16777216 then valO ((atI x.cps.toList i).map fun c => .str ⟨#[c]⟩) else .no := rfl
@[simp] theorem valO_some {u : U} : valO (some u) = .val u := rfl
@[simp] theorem valO_map {u : α} {f : α → U} : valO ((some u).map f) = .val (f u) := rfl
@[simp] theorem newO_some {u : List U} : newO (some u) = .new u := rfl
@[simp] theorem sl_T {lo hi : Option Int} : uSl (.tup a) lo hi = .val (.tup (cutL a lo hi)) := rfl
@[simp] theorem sl_L {lo hi : Option Int} : uSl (.lst a) lo hi = .new (cutL a lo hi) := rfl
@[simp] theorem sl_C {ns : List Int} {lo hi : Option Int} : uSl (.scr ns) lo hi = .new (cutL (ns.map .int) lo hi) := rfl
@[simp] theorem sl_S {lo hi : Option Int} : uSl (.str x) lo hi = if x.length ≤ 16777216 then .val (.str ⟨(cutL x.cps.toList lo hi).toArray⟩) else .no := rfl
@[simp] theorem tr_bl {k : Bool} : truU (.bl k) = some k := rfl
@[simp] theorem tr_int : truU (.int i) = some (i != 0) := rfl
@[simp] theorem tr_lst : truU (.lst a) = some (!a.isEmpty) := rfl
@[simp] theorem tr_tup : truU (.tup a) = some (!a.isEmpty) := rfl
@[simp] theorem l_tup : listU (.tup a) = some a := rfl
@[simp] theorem l_lst : listU (.lst a) = some a := rfl
@[simp] theorem l_scr {ns : List Int} : listU (.scr ns) = some (ns.map .int) := rfl
@[simp] theorem ints_map : ∀ L : List Int, intsU (L.map U.int) = some L
  | [] => rfl
  | x :: r => by show (intsU (r.map U.int)).map (x :: ·) = _; rw [ints_map r]; rfl
@[simp] theorem bools_map : ∀ L : List Bool, boolsU (L.map U.bl) = some L
  | [] => rfl
  | x :: r => by show (boolsU (r.map U.bl)).map (x :: ·) = _; rw [bools_map r]; rfl
@[simp] theorem strs_map : ∀ L : List Str, strsU (L.map U.str) = some L
  | [] => rfl
  | x :: r => by show (strsU (r.map U.str)).map (x :: ·) = _; rw [strs_map r]; rfl
@[simp] theorem blt_lenT : bltU .len [.tup a] = .val (.int a.length) := rfl
@[simp] theorem blt_lenL : bltU .len [.lst a] = .val (.int a.length) := rfl
@[simp] theorem blt_lenC {ns : List Int} : bltU .len [.scr ns] = .val (.int ns.length) := by
  show VO.val (.int ((ns.map U.int).length : Nat)) = _
  rw [List.length_map]
@[simp] theorem blt_lenS : bltU .len [.str x] = if x.length ≤ 16777216 then .val (.int x.length) else .no := rfl
@[simp] theorem blt_abs : bltU .abs [.int i] = .val (.int (if i < 0 then -i else i)) := rfl
@[simp] theorem blt_max : bltU .max [.int i, .int j] = .val (.int (if j > i then j else i)) := rfl
@[simp] theorem blt_min : bltU .min [.int i, .int j] = .val (.int (if j < i then j else i)) := rfl
@[simp] theorem blt_maxL : bltU .max [.lst a] = valO (((intsU a).bind maxL).map .int) := rfl
@[simp] theorem blt_maxT : bltU .max [.tup a] = valO (((intsU a).bind maxL).map .int) := rfl
@[simp] theorem blt_minT : bltU .min [.tup a] = valO (((intsU a).bind minL).map .int) := rfl
@[simp] theorem blt_minL : bltU .min [.lst a] = valO (((intsU a).bind minL).map .int) := rfl
@[simp] theorem blt_divmod : bltU .divmod [.int i, .int j] = if 0 < j ∧ j < hid 1267650600228229401496703205376 then .val (.tup [.int (i / j), .int (i % j)]) else .no := rfl
@[simp] theorem blt_isinst {u : U} {n : String} : bltU .isinst [u, .ty n] = valO ((isiU u n).map .bl) := rfl
@[simp] theorem blt_list {u : U} : bltU .list [u] = newO (listUS u) := rfl
@[simp] theorem lus_tup : listUS (.tup a) = some a := rfl
@[simp] theorem lus_lst : listUS (.lst a) = some a := rfl
@[simp] theorem lus_scr {ns : List Int} : listUS (.scr ns) = some (ns.map .int) := rfl
@[simp] theorem lus_str : listUS (.str x) = if x.length ≤ 16777216 then some (charsU x) else none := rfl
@[simp] theorem blt_tuple {u : U} : bltU .tuple [u] = valO ((listU u).map .tup) := rfl
@[simp] theorem blt_all : bltU .all [.lst a] = valO ((boolsU a).map fun l => .bl (l.all id)) := rfl
@[simp] theorem blt_any : bltU .any [.lst a] = valO ((boolsU a).map fun l => .bl (l.any id)) := rfl
@[simp] theorem blt_sum : bltU .sum [.lst a] = valO ((intsU a).map fun l => .int l.sum) := rfl
@[simp] theorem blt_sorted {u : U} : bltU .sorted [u] = newO (orO (((listU u).bind intsU).map fun l => (isort l).map .int) (sortUP u)) := rfl
@[simp] theorem orO_some {α : Type} {x : α} {y : Option α} : orO (some x) y = some x := rfl
@[simp] theorem orO_none {α : Type} {y : Option α} : orO none y = y := rfl
@[simp] theorem sup_lst : sortUP (.lst a) = sortPyU a := rfl
@[simp] theorem blt_repr {u : U} : bltU .repr [u] = valO ((reprU u).map .str) := rfl
@[simp] theorem isi_ii : isiU (.int i) "int" = some true := rfl
@[simp] theorem isi_ib : isiU (.int i) "bool" = some false := rfl
@[simp] theorem isi_it : isiU (.int i) "tuple" = some false := rfl
@[simp] theorem isi_is : isiU (.int i) "str" = some false := rfl
@[simp] theorem isi_tt : isiU (.tup a) "tuple" = some true := rfl
@[simp] theorem isi_ts : isiU (.tup a) "str" = some false := rfl
@[simp] theorem isi_ss : isiU (.str x) "str" = some true := rfl
@[simp] theorem isi_st : isiU (.str x) "tuple" = some false := rfl
@[simp] theorem isi_bb {k : Bool} : isiU (.bl k) "bool" = some true := rfl
@[simp] theorem isi_bi {k : Bool} : isiU (.bl k) "int" = some true := rfl
@[simp] theorem isi_ll : isiU (.lst a) "list" = some true := rfl
@[simp] theorem mo_join : mthOfU "join" (.str x) = some .join := rfl
@[simp] theorem mo_count : mthOfU "count" (.str x) = some .scount := rfl
@[simp] theorem mo_ends : mthOfU "endswith" (.str x) = some .endswith := rfl
@[simp] theorem mo_lstrip : mthOfU "lstrip" (.str x) = some .lstrip := rfl
@[simp] theorem mo_starts : mthOfU "startswith" (.str x) = some .startswith := rfl
@[simp] theorem mo_index : mthOfU "index" (.lst a) = some .lindex := rfl
@[simp] theorem mo_lcount : mthOfU "count" (.lst a) = some .lcount := rfl
@[simp] theorem m_join {u : U} : mthU .join (.str x) [u] = match (listU u).bind strsU with
      | some ys => if (ys.map (·.length)).sum + ys.length * x.length ≤ 16777216 then .val (.str (Txt.join x ys)) else .no
      | none => .no := rfl
@[simp] theorem m_count : mthU .scount (.str x) [.str y] = .val (.int (Txt.count x y)) := rfl
@[simp] theorem m_lstrip : mthU .lstrip (.str x) [.str y] = if x.length ≤ 16777216 then .val (.str (Txt.lstripChars x y)) else .no := rfl
@[simp] theorem m_ends : mthU .endswith (.str x) [.str y] = .val (.bl (Txt.endswith x y)) := rfl
@[simp] theorem m_index {u : U} : mthU .lindex (.lst a) [u] = if (flatU u && a.all flatU) = true then valO ((idxFU u a).map fun k => .int (k : Nat)) else .no := rfl
@[simp] theorem m_lcount : mthU .lcount (.lst a) [.int i] = valO ((intsU a).map fun ns => .int (ns.count i : Nat)) := rfl
@[simp] theorem imm_int : imm (.int i) = true := rfl
@[simp] theorem imm_str : imm (.str x) = true := rfl
@[simp] theorem imm_bl {k : Bool} : imm (.bl k) = true := rfl
@[simp] theorem imm_non : imm .non = true := rfl
@[simp] theorem imm_scr {ns : List Int} : imm (.scr ns) = true := rfl
@[simp] theorem imm_lst : imm (.lst a) = false := rfl
@[simp] theorem imm_tup : imm (.tup a) = imms a := by rw [imm]
@[simp] theorem imms_nil : imms [] = true := by rw [imms]
@[simp] theorem imms_cons {u : U} : imms (u :: a) = (imm u && imms a) := by rw [imms]
@[simp] theorem imms_ints : ∀ L : List Int, imms (L.map U.int) = true
  | [] => imms_nil
  | x :: r => by rw [List.map_cons, imms_cons, imms_ints r]; rfl
@[simp] theorem imms_strs : ∀ L : List Str, imms (L.map U.str) = true
  | [] => imms_nil
  | x :: r => by rw [List.map_cons, imms_cons, imms_strs r]; rfl
@[simp] theorem rgU_map {i j : Int} : rgU i j = (rgL i j).map U.int := by
  unfold rgU rgL
  rw [List.map_map]
  rfl
end
end
end PyI
-- PvL1
namespace PyI
noncomputable section
open PySem PySem.Spec L2
def b_law_draw : MS := (mSeq (mAsg (mBin (opB .Add) (mBin opI (mVar 0) (mLit (.int 2))) (mLit (.int 1))) (gSubM (mVar 0) (mLit (.int 2)))) (mSeq (mAsg (mBin opI (mVar 0) (mLit (.int 0))) (gNm 2)) (mSeq (mAsg (mBin (opB .Mod) (mBin (opB .Add) (mBin (opB .Mult) (mVar 2) (mBin (opB .Add) (mBin (opB .Mod) (mVar 2) (mLit (.int 40961))) (mLit (.int 30029)))) (mBin (opB .Mult) (mLit (.int 70003)) (mBin opI (mVar 0) (mLit (.int 2))))) (mLit (.int 2147483399))) (gSubM (mVar 0) (mLit (.int 0)))) (mSeq (mIfS (mB (mBin (opC .Gt) (mBin opI (mVar 0) (mLit (.int 1))) (mLit (.int 0)))) (mSeq (mAsg (mBlt .divmod [mBin opI (mVar 0) (mLit (.int 1)), mVar 1]) (gTp [gSubM (mVar 0) (mLit (.int 1)), gNm 3])) (mSeq (mRet (mVar 3)) mNext)) mNext) (mSeq (mRet (mBin (opB .Mod) (mBin (opB .FloorDiv) (mBin opI (mVar 0) (mLit (.int 0))) (mLit (.int 64))) (mVar 1))) mNext)))))
def vb_law_draw : VS := vSeq (vAsgG (vBin (uB .Add) (vBin uI (vVar 0) (vLit (.int 2))) (vLit (.int 1))) (vgSub 0 (vLit (.int 2)))) (vSeq (vAsg (vBin uI (vVar 0) (vLit (.int 0))) 2) (vSeq (vAsgG (vBin (uB .Mod) (vBin (uB .Add) (vBin (uB .Mult) (vVar 2) (vBin (uB .Add) (vBin (uB .Mod) (vVar 2) (vLit (.int 40961))) (vLit (.int 30029)))) (vBin (uB .Mult) (vLit (.int 70003)) (vBin uI (vVar 0) (vLit (.int 2))))) (vLit (.int 2147483399))) (vgSub 0 (vLit (.int 0)))) (vSeq (vIfS (vB (vBin (uC .Gt) (vBin uI (vVar 0) (vLit (.int 1))) (vLit (.int 0)))) (vSeq (vAsgG (vBlt .divmod [vBin uI (vVar 0) (vLit (.int 1)), vVar 1]) (vgTp [vgSub 0 (vLit (.int 1)), vgNm 3])) (vSeq (vRet (vVar 3)) vNext)) vNext) (vSeq (vRet (vBin (uB .Mod) (vBin (uB .FloorDiv) (vBin uI (vVar 0) (vLit (.int 0))) (vLit (.int 64))) (vVar 1))) vNext))))
def V_law_draw : VF := runV1 vb_law_draw 2 4
theorem sim_law_draw : SimS (b_law_draw) vb_law_draw := sims_seq (sims_asgG (sim_bin (osim_B _) (sim_bin osim_I sim_var (sim_lit fun _ _ => .int _)) (sim_lit fun _ _ => .int _)) (simg_sub (sim_lit fun _ _ => .int _))) (sims_seq (sims_asg (sim_bin osim_I sim_var (sim_lit fun _ _ => .int _))) (sims_seq (sims_asgG (sim_bin (osim_B _) (sim_bin (osim_B _) (sim_bin (osim_B _) sim_var (sim_bin (osim_B _) (sim_bin (osim_B _) sim_var (sim_lit fun _ _ => .int _)) (sim_lit fun _ _ => .int _))) (sim_bin (osim_B _) (sim_lit fun _ _ => .int _) (sim_bin osim_I sim_var (sim_lit fun _ _ => .int _)))) (sim_lit fun _ _ => .int _)) (simg_sub (sim_lit fun _ _ => .int _))) (sims_seq (sims_if (sim_B (sim_bin (osim_C _) (sim_bin osim_I sim_var (sim_lit fun _ _ => .int _)) (sim_lit fun _ _ => .int _))) (sims_seq (sims_asgG (sim_blt (.cons (sim_bin osim_I sim_var (sim_lit fun _ _ => .int _)) (.cons sim_var .nil))) (simg_tp (.cons (simg_sub (sim_lit fun _ _ => .int _)) (.cons simg_nm .nil)))) (sims_seq (sims_ret sim_var) sims_next)) sims_next) (sims_seq (sims_ret (sim_bin (osim_B _) (sim_bin (osim_B _) (sim_bin osim_I sim_var (sim_lit fun _ _ => .int _)) (sim_lit fun _ _ => .int _)) sim_var)) sims_next))))
def b_law_pool : MS := (mSeq (mAsg (mIf (mOrT [mB (mBin (opC .Lt) (mVar 0) (mLit (.int 0))), mB (mBin (opC .GtE) (mVar 0) (mBin (opB .Pow) (mLit (.int 10)) (mLit (.int 18))))]) (mBlt .abs [mVar 0]) (mLit (.int 0))) (gNm 1)) (mSeq (mRet (mLst [mBin (opB .Mod) (mVar 0) (mLit (.int 2147483399)), mVar 1, mLit (.int 0)])) mNext))
def vb_law_pool : VS := vSeq (vAsg (vIf (vOrT [vB (vBin (uC .Lt) (vVar 0) (vLit (.int 0))), vB (vBin (uC .GtE) (vVar 0) (vBin (uB .Pow) (vLit (.int 10)) (vLit (.int 18))))]) (vBlt .abs [vVar 0]) (vLit (.int 0))) 1) (vSeq (vRet (vLst [vBin (uB .Mod) (vVar 0) (vLit (.int 2147483399)), vVar 1, vLit (.int 0)])) vNext)
def V_law_pool : VF := runV vb_law_pool 1 2
theorem sim_law_pool : SimS (b_law_pool) vb_law_pool := sims_seq (sims_asg (sim_if (sim_orT (.cons (sim_B (sim_bin (osim_C _) sim_var (sim_lit fun _ _ => .int _))) (.cons (sim_B (sim_bin (osim_C _) sim_var (sim_bin (osim_B _) (sim_lit fun _ _ => .int _) (sim_lit fun _ _ => .int _)))) .nil))) (sim_blt (.cons sim_var .nil)) (sim_lit fun _ _ => .int _))) (sims_seq (sims_ret (sim_lst (.cons (sim_bin (osim_B _) sim_var (sim_lit fun _ _ => .int _)) (.cons sim_var (.cons (sim_lit fun _ _ => .int _) .nil))))) sims_next)
def b_law_cell : MS := (mSeq (mIfS (mB (mBin (opC .Lt) (mVar 1) (mBlt .len [mVar 0]))) (mSeq (mRet (mBin opI (mVar 0) (mVar 1))) mNext) mNext) (mSeq (mAsg (mBin (opB .Mod) (mBin (opB .Mult) (mLit (.int 70003)) (mBin (opB .Add) (mBin (opB .Add) (mBin (opB .Mult) (mVar 1) (mVar 1)) (mBin (opB .Mult) (mLit (.int 11)) (mVar 1))) (mLit (.int 7)))) (mLit (.int 2147483399))) (gNm 2)) (mSeq (mFor (iPlain (mSl (mVar 0) oNone (mPart (mLit (.int 3))))) (gNm 3) (mSeq (mAsg (mBin (opB .Mod) (mBin (opB .Add) (mBin (opB .Mult) (mVar 2) (mLit (.int 39119))) (mVar 3)) (mLit (.int 2147483399))) (gNm 2)) mNext)) (mSeq (mRet (mVar 2)) mNext))))
def vb_law_cell : VS := vSeq (vIfS (vB (vBin (uC .Lt) (vVar 1) (vBlt .len [vVar 0]))) (vSeq (vRet (vBin uI (vVar 0) (vVar 1))) vNext) vNext) (vSeq (vAsg (vBin (uB .Mod) (vBin (uB .Mult) (vLit (.int 70003)) (vBin (uB .Add) (vBin (uB .Add) (vBin (uB .Mult) (vVar 1) (vVar 1)) (vBin (uB .Mult) (vLit (.int 11)) (vVar 1))) (vLit (.int 7)))) (vLit (.int 2147483399))) 2) (vSeq (vFor (vPlain (vSl (vVar 0) vNone (vPart (vLit (.int 3))))) (vgNm 3) (vSeq (vAsg (vBin (uB .Mod) (vBin (uB .Add) (vBin (uB .Mult) (vVar 2) (vLit (.int 39119))) (vVar 3)) (vLit (.int 2147483399))) 2) vNext)) (vSeq (vRet (vVar 2)) vNext)))
def V_law_cell : VF := runV vb_law_cell 2 4
theorem sim_law_cell : SimS (b_law_cell) vb_law_cell := sims_seq (sims_if (sim_B (sim_bin (osim_C _) sim_var (sim_blt (.cons sim_var .nil)))) (sims_seq (sims_ret (sim_bin osim_I sim_var sim_var)) sims_next) sims_next) (sims_seq (sims_asg (sim_bin (osim_B _) (sim_bin (osim_B _) (sim_lit fun _ _ => .int _) (sim_bin (osim_B _) (sim_bin (osim_B _) (sim_bin (osim_B _) sim_var sim_var) (sim_bin (osim_B _) (sim_lit fun _ _ => .int _) sim_var)) (sim_lit fun _ _ => .int _))) (sim_lit fun _ _ => .int _))) (sims_seq (sims_for (simi_plain (sim_sl sim_var sim_none (sim_part (sim_lit fun _ _ => .int _)))) simg_nm (sims_seq (sims_asg (sim_bin (osim_B _) (sim_bin (osim_B _) (sim_bin (osim_B _) sim_var (sim_lit fun _ _ => .int _)) sim_var) (sim_lit fun _ _ => .int _))) sims_next)) (sims_seq (sims_ret sim_var) sims_next)))
def b_law_heights (G_law_draw : List D → DH → Res D) : MS := (mSeq (mAsg (mCallK G_law_draw 2 2 0 [0, 1] [mVar 0, mLit (.int 4)] []) (gNm 2)) (mSeq (mIfS (mB (mBin (opC .Eq) (mVar 2) (mLit (.int 0)))) (mSeq (mRet (mLstRg [mLit (.int 1), mBin (opB .Add) (mVar 1) (mLit (.int 1))])) mNext) mNext) (mSeq (mIfS (mB (mBin (opC .Eq) (mVar 2) (mLit (.int 1)))) (mSeq (mRet (mLstRg [mBin (opB .Sub) (mLit (.int 1000)) (mVar 1), mLit (.int 1000)])) mNext) mNext) (mSeq (mAsg (mLstRg [mLit (.int 1), mLit (.int 1000)]) (gNm 3)) (mSeq (mRet (mBlt .sorted [mLc (iRange rngOf1 [mVar 1]) (gNm 4) tYesM (mMeth "pop" (mVar 3) [mCallK G_law_draw 2 2 0 [0, 1] [mVar 0, mBlt .len [mVar 3]] []]) [4]])) mNext)))))
def vb_law_heights : VS := vSeq (vAsg (vCall1 V_law_draw 0 [vLit (.int 4)]) 2) (vSeq (vIfS (vB (vBin (uC .Eq) (vVar 2) (vLit (.int 0)))) (vSeq (vRet (vLstRg [vLit (.int 1), vBin (uB .Add) (vVar 1) (vLit (.int 1))])) vNext) vNext) (vSeq (vIfS (vB (vBin (uC .Eq) (vVar 2) (vLit (.int 1)))) (vSeq (vRet (vLstRg [vBin (uB .Sub) (vLit (.int 1000)) (vVar 1), vLit (.int 1000)])) vNext) vNext) (vSeq (vAsg (vLstRg [vLit (.int 1), vLit (.int 1000)]) 3) (vSeq (vRet (vBlt .sorted [vLc (vRange rng1U [vVar 1]) (vgNm 4) vYes (vPopI 3 (vCall1 V_law_draw 0 [vBlt .len [vVar 3]])) [4]])) vNext))))
def V_law_heights : VF := runV1 vb_law_heights 2 5
theorem sim_law_heights {G_law_draw : List D → DH → Res D} (f_law_draw : FSim1 G_law_draw V_law_draw) : SimS (b_law_heights G_law_draw) vb_law_heights := sims_seq (sims_asg (sim_call1 f_law_draw rfl (.cons (sim_lit fun _ _ => .int _) .nil) rfl rfl)) (sims_seq (sims_if (sim_B (sim_bin (osim_C _) sim_var (sim_lit fun _ _ => .int _))) (sims_seq (sims_ret (sim_lstRg (.cons (sim_lit fun _ _ => .int _) (.cons (sim_bin (osim_B _) sim_var (sim_lit fun _ _ => .int _)) .nil)))) sims_next) sims_next) (sims_seq (sims_if (sim_B (sim_bin (osim_C _) sim_var (sim_lit fun _ _ => .int _))) (sims_seq (sims_ret (sim_lstRg (.cons (sim_bin (osim_B _) (sim_lit fun _ _ => .int _) sim_var) (.cons (sim_lit fun _ _ => .int _) .nil)))) sims_next) sims_next) (sims_seq (sims_asg (sim_lstRg (.cons (sim_lit fun _ _ => .int _) (.cons (sim_lit fun _ _ => .int _) .nil)))) (sims_seq (sims_ret (sim_blt (.cons (sim_lc (simi_range rgs1 (.cons sim_var .nil)) simg_nm (keep_nm (by decide)) sim_yes (sim_popI (sim_call1 f_law_draw rfl (.cons (sim_blt (.cons sim_var .nil)) .nil) rfl rfl))) .nil))) sims_next))))
def b_law_row (G_law_draw G_law_heights : List D → DH → Res D) : MS := (mSeq (mPar [4, 5] [mCallK G_law_heights 2 2 0 [0, 1] [mVar 0, mBin (opB .Add) (mVar 1) (mCallK G_law_draw 2 2 0 [0, 1] [mVar 0, mBin (opB .Add) (mBin (opB .Sub) (mVar 2) (mVar 1)) (mLit (.int 1))] [])] [], mLst []]) (mSeq (mFor (iRange rngOf1 [mBlt .len [mVar 4]]) (gNm 3) (mSeq (mDrop (mMeth "append" (mVar 5) [mMeth "pop" (mVar 4) [mCallK G_law_draw 2 2 0 [0, 1] [mVar 0, mBlt .len [mVar 4]] []]])) mNext)) (mSeq (mRet (mBlt .tuple [mVar 5])) mNext)))
def vb_law_row : VS := vSeq (vPar [4, 5] [vCall1 V_law_heights 0 [vBin (uB .Add) (vVar 1) (vCall1 V_law_draw 0 [vBin (uB .Add) (vBin (uB .Sub) (vVar 2) (vVar 1)) (vLit (.int 1))])], vLst []]) (vSeq (vFor (vRange rng1U [vBlt .len [vVar 4]]) (vgNm 3) (vSeq (vDrop (vApp 5 (vPopI 4 (vCall1 V_law_draw 0 [vBlt .len [vVar 4]])))) vNext)) (vSeq (vRet (vBlt .tuple [vVar 5])) vNext))
def V_law_row : VF := runV1 vb_law_row 3 6
theorem sim_law_row {G_law_draw G_law_heights : List D → DH → Res D} (f_law_draw : FSim1 G_law_draw V_law_draw) (f_law_heights : FSim1 G_law_heights V_law_heights) : SimS (b_law_row G_law_draw G_law_heights) vb_law_row := sims_seq (sims_par (.cons (sim_call1 f_law_heights rfl (.cons (sim_bin (osim_B _) sim_var (sim_call1 f_law_draw rfl (.cons (sim_bin (osim_B _) (sim_bin (osim_B _) sim_var sim_var) (sim_lit fun _ _ => .int _)) .nil) rfl rfl)) .nil) rfl rfl) (.cons (sim_lst .nil) .nil))) (sims_seq (sims_for (simi_range rgs1 (.cons (sim_blt (.cons sim_var .nil)) .nil)) simg_nm (sims_seq (sims_drop (sim_app (sim_popI (sim_call1 f_law_draw rfl (.cons (sim_blt (.cons sim_var .nil)) .nil) rfl rfl)))) sims_next)) (sims_seq (sims_ret (sim_blt (.cons sim_var .nil))) sims_next))
structure PoolU (p : List U) : Prop where
  ex : ∃ a b c : Int, p = [.int a, .int b, .int c] ∧ 0 ≤ a ∧ a < 2147483399 ∧ 0 ≤ b
theorem draw_VB {p : List U} {k : Int} (hp : PoolU p) (h1 : 1 ≤ k) (h2 : k < 1267650600228229401496703205376) : ∃ r p', PoolU p' ∧ 0 ≤ r ∧ r < k ∧ V_law_draw [.lst p, .int k] = .ok (.int r) false (.lst p') := by
  obtain ⟨a, b, c, rfl, a0, a1, b0⟩ := hp.ex
  have z0 : 0 ≤ (a * (a % 40961 + 30029) + 70003 * (c + 1)) % 2147483399 := Int.emod_nonneg _ (by decide)
  have z1 : (a * (a % 40961 + 30029) + 70003 * (c + 1)) % 2147483399 < 2147483399 := Int.emod_lt_of_pos _ (by decide)
  have m1 : mulOk a (a % 40961 + 30029) = true := mulA _ a0 a1
  have m2 : mulOk 70003 (c + 1) = true := mulL _ (by decide) (by decide)
  have hh : 0 < k ∧ k < hid 1267650600228229401496703205376 := ⟨by omega, by rw [hid_eq]; exact h2⟩
  have k0 : 0 < k := by omega
  have l64 : Nat.log2 64 < 9000 := by decide +kernel
  by_cases hb : 0 < b
  · refine ⟨b % k, _, ⟨⟨_, b / k, c + 1, rfl, z0, z1, Int.ediv_nonneg b0 (by omega)⟩⟩, Int.emod_nonneg _ (by omega), Int.emod_lt_of_pos _ (by omega), ?_⟩
    simp [V_law_draw, runV1, vb_law_draw, atu0, atu1, atu2, ix0, ix1, ix2, m1, m2, hb, hh]
  · refine ⟨(a * (a % 40961 + 30029) + 70003 * (c + 1)) % 2147483399 / 64 % k, _, ⟨⟨_, b, c + 1, rfl, z0, z1, b0⟩⟩, Int.emod_nonneg _ (by omega), Int.emod_lt_of_pos _ (by omega), ?_⟩
    simp [V_law_draw, runV1, vb_law_draw, atu0, atu1, atu2, ix0, ix1, ix2, m1, m2, hb, k0, l64]
theorem draw_V {p : List U} {k : Int} (hp : PoolU p) (h1 : 1 ≤ k) (h2 : k < 1073741824) : ∃ r p', PoolU p' ∧ 0 ≤ r ∧ r < k ∧ V_law_draw [.lst p, .int k] = .ok (.int r) false (.lst p') := draw_VB hp h1 (by omega)
theorem pool_V (i : Int) : ∃ p, PoolU p ∧ V_law_pool [.int i] = .ok (.lst p) true .non := by
  have q : powOk 10 18 = true := by
    unfold powOk
    rw [hid_eq]
    decide +kernel
  have z0 : 0 ≤ i % 2147483399 := Int.emod_nonneg _ (by decide)
  have z1 : i % 2147483399 < 2147483399 := Int.emod_lt_of_pos _ (by decide)
  by_cases h1 : i < 0
  · refine ⟨_, ⟨i % 2147483399, -i, 0, rfl, z0, z1, by omega⟩, ?_⟩
    simp [V_law_pool, runV, vb_law_pool, h1]
  · by_cases h2 : 1000000000000000000 ≤ i
    · refine ⟨_, ⟨i % 2147483399, i, 0, rfl, z0, z1, by omega⟩, ?_⟩
      simp [V_law_pool, runV, vb_law_pool, h1, h2, q]
    · refine ⟨_, ⟨i % 2147483399, 0, 0, rfl, z0, z1, by omega⟩, ?_⟩
      simp [V_law_pool, runV, vb_law_pool, h1, h2, q]
theorem cell_loop (ns : List Int) (k : U) : ∀ (xs : List Int) (m : Int) (v : Option (U × Fl)), ∃ m' v', forV (vgNm 3) (vSeq (vAsg (vBin (uB .Mod) (vBin (uB .Add) (vBin (uB .Mult) (vVar 2) (vLit (.int 39119))) (vVar 3)) (vLit (.int 2147483399))) 2) vNext) (xs.map U.int) [some (.scr ns, .bor), some (k, .bor), some (.int (m % 2147483399), .shr), v] = .nx [some (.scr ns, .bor), some (k, .bor), some (.int (m' % 2147483399), .shr), v']
  | [], m, v => ⟨m, v, rfl⟩
  | x :: r, m, v => by
    have z0 : 0 ≤ m % 2147483399 := Int.emod_nonneg _ (by decide)
    have z1 : m % 2147483399 < 2147483399 := Int.emod_lt_of_pos _ (by decide)
    obtain ⟨m', v', e⟩ := cell_loop ns k r (m % 2147483399 * 39119 + x) (some (.int x, .shr))
    refine ⟨m', v', ?_⟩
    rw [List.map_cons, for_cons, ← e]
    simp [mulA _ z0 z1]
theorem cell_V {ns : List Int} {i : Int} (h0 : 0 ≤ i) (h1 : i < 1000) : ∃ c, V_law_cell [.scr ns, .int i] = .ok (.int c) false .non := by
  by_cases hlt : i < ns.length
  · have hk : i.toNat < ns.length := by omega
    have e : atI (ns.map U.int) i = some (.int (ns[i.toNat]'hk)) := by
      have e1 : (ns.map U.int)[i.toNat]? = some (.int (ns[i.toNat]'hk)) := by rw [List.getElem?_map, List.getElem?_eq_getElem hk]; rfl
      have := atI_nat e1
      rwa [show ((i.toNat : Nat) : Int) = i by omega] at this
    exact ⟨ns[i.toNat]'hk, by simp [V_law_cell, runV, vb_law_cell, hlt, e]⟩
  · have m1 : mulOk i i = true := mulL _ (by omega) (by omega)
    have m2 : mulOk 11 i = true := mulL _ (by omega) (by omega)
    have m3 : ∀ x, mulOk 70003 x = true := fun x => mulL _ (by omega) (by omega)
    have cc : cutL (ns.map U.int) none (some 3) = (ns.take 3).map U.int := by
      have := cut_head (ns.map U.int) 3
      rw [List.map_take]; exact this
    obtain ⟨m', v', e⟩ := cell_loop ns (.int i) (ns.take 3) (70003 * (i * i + 11 * i + 7)) none
    have hl : min 3 ns.length < 1000000 := by omega
    refine ⟨m' % 2147483399, ?_⟩
    simp [V_law_cell, runV, vb_law_cell, hlt, m1, m2, m3, cc, hl]
    simp at e
    rw [e]
    simp
theorem smallI_i {i : Int} (h0 : -1000000000 ≤ i) (h1 : i < 1000000000) : smallI i = true := by
  unfold smallI
  rw [hid_eq]
  simp
  omega
theorem rgOk_i {i j : Int} (h0 : -1000000 ≤ i) (h1 : i ≤ 1000000) (h2 : -1000000 ≤ j) (h3 : j ≤ 1000000) : rgOk i j = true := by
  unfold rgOk
  rw [smallI_i (by omega) (by omega), smallI_i (by omega) (by omega)]
  simp
  omega
theorem popIx_i {k : Int} {n : Nat} (h0 : 0 ≤ k) (h1 : k < n) (h2 : n < 1000000) : popIx k n = some k.toNat := by
  unfold popIx
  rw [hid_eq, if_pos (by omega)]
  unfold seqIndex?
  simp [h0, h1, show ¬ k < 0 by omega]
theorem map_eraseU (f : Int → U) : ∀ (L : List Int) (k : Nat), (L.map f).eraseIdx k = (L.eraseIdx k).map f
  | [], k => rfl
  | x :: r, 0 => rfl
  | x :: r, k + 1 => by
    show f x :: (r.map f).eraseIdx k = f x :: (r.eraseIdx k).map f
    rw [map_eraseU f r k]
/-- the comprehension of heights -/
theorem heights_loop (z md : U × Fl) : ∀ (xs : List Int) (M : List Int) (p : List U), PoolU p → xs.length ≤ M.length → M.length < 100000 → ∃ (L M' : List Int) (p' : List U), PoolU p' ∧ L.length = xs.length ∧ (L ++ M').Perm M ∧
    lcV (vgNm 4) vYes (vPopI 3 (vCall1 V_law_draw 0 [vBlt .len [vVar 3]])) [4] (xs.map U.int) [some (.lst p, .io), some z, some md, some (.lst (M.map .int), .own), none] = .ok (L.map U.int) [some (.lst p', .io), some z, some md, some (.lst (M'.map .int), .own), none]
  | [], M, p, hp, _, _ => ⟨[], M, p, hp, rfl, by simp, rfl⟩
  | x :: r, M, p, hp, h1, h2 => by
    simp at h1
    obtain ⟨k, p1, hp1, k0, k1, e1⟩ := draw_V (k := M.length) hp (by omega) (by omega)
    have hk : k.toNat < M.length := by omega
    obtain ⟨L, M', p', hp', hl, pm, e⟩ := heights_loop z md r (M.eraseIdx k.toNat) p1 hp1 (by rw [List.length_eraseIdx_of_lt hk]; omega) (by rw [List.length_eraseIdx_of_lt hk]; omega)
    refine ⟨M[k.toNat] :: L, M', p', hp', by simp [hl], ((pm.cons _).trans (erase_split hk)), ?_⟩
    rw [List.map_cons, lc_consV]
    have px : popIx k M.length = some k.toNat := popIx_i k0 (by omega) (by omega)
    simp [e1, px, hk, map_eraseU]
    -- 
    rw [e]
    simp
theorem rgL_pw (u v : Int) : (rgL u v).Pairwise (· < ·) := by
  unfold rgL
  rw [List.pairwise_map]
  exact List.pairwise_lt_range.imp fun h => by omega
theorem isort_ltN {L : List Int} (nd : L.Nodup) : (isort L).Pairwise (· < ·) := by
  have n2 : (isort L).Nodup := (isort_perm L).nodup_iff.mpr nd
  exact (List.pairwise_and_iff.mpr ⟨isort_pw L, n2⟩).imp fun h => by omega
theorem heights_VA {p : List U} {z : Int} (hp : PoolU p) (z0 : 1 ≤ z) (z1 : z ≤ 999) : ∃ (L : List Int) (p' : List U), PoolU p' ∧ (L.length : Int) = z ∧ HL L ∧ L.Pairwise (· < ·) ∧ V_law_heights [.lst p, .int z] = .ok (.lst (L.map .int)) true (.lst p') := by
  obtain ⟨md, p1, hp1, m0, m1, e1⟩ := draw_V (k := 4) hp (by decide) (by decide)
  have r1 : rgOk 1 (z + 1) = true := rgOk_i (by omega) (by omega) (by omega) (by omega)
  have r2 : rgOk (1000 - z) 1000 = true := rgOk_i (by omega) (by omega) (by omega) (by omega)
  have r3 : rgOk 1 1000 = true := rgOk_i (by omega) (by omega) (by omega) (by omega)
  have s1 : smallI z = true := smallI_i (by omega) (by omega)
  by_cases c0 : md = 0
  · refine ⟨rgL 1 (z + 1), p1, hp1, by rw [rgL_len]; omega, ⟨rgL_nd _ _, fun x hx => by have := rgL_mem hx; omega⟩, rgL_pw _ _, ?_⟩
    simp [V_law_heights, runV1, vb_law_heights, e1, c0, r1]
  · by_cases c1 : md = 1
    · refine ⟨rgL (1000 - z) 1000, p1, hp1, by rw [rgL_len]; omega, ⟨rgL_nd _ _, fun x hx => by have := rgL_mem hx; omega⟩, rgL_pw _ _, ?_⟩
      simp [V_law_heights, runV1, vb_law_heights, e1, c0, c1, r1, r2]
    · have len := rgL_len 1 1000
      have len2 := rgL_len 0 z
      obtain ⟨L, M', p', hp', hl, pm, e⟩ := heights_loop (.int z, .bor) (.int md, .shr) (rgL 0 z) (rgL 1 1000) p1 hp1 (by omega) (by omega)
      have hl' : HL (rgL 1 1000) := ⟨rgL_nd _ _, fun x hx => by have := rgL_mem hx; omega⟩
      have hl2 : HL L := ⟨((pm.nodup_iff.mpr hl'.nd).sublist (List.sublist_append_left L M')), fun x hx => hl'.rg x (pm.mem_iff.mp (List.mem_append_left M' hx))⟩
      refine ⟨isort L, p', hp', by rw [(isort_perm L).length_eq]; omega, hl2.perm (isort_perm L), isort_ltN hl2.nd, ?_⟩
      have hn : (rgL 0 z).length < 1000000 := by omega
      simp [V_law_heights, runV1, vb_law_heights, e1, c0, c1, r1, r2, r3, s1, hn]
      -- 
      rw [e]
      simp
theorem heights_V {p : List U} {z : Int} (hp : PoolU p) (z0 : 1 ≤ z) (z1 : z ≤ 999) : ∃ (L : List Int) (p' : List U), PoolU p' ∧ (L.length : Int) = z ∧ HL L ∧ V_law_heights [.lst p, .int z] = .ok (.lst (L.map .int)) true (.lst p') := by
  obtain ⟨L, p', a, b, c, _, e⟩ := heights_VA hp z0 z1
  exact ⟨L, p', a, b, c, e⟩
/-- the loop of a row -/
theorem row_loop (z1 z2 : U × Fl) : ∀ (xs : List Int) (M A : List Int) (p : List U) (v : Option (U × Fl)), PoolU p → xs.length = M.length → M.length + A.length < 100000 → ∃ (L : List Int) (p' : List U) (v' : Option (U × Fl)), PoolU p' ∧ L.Perm (A ++ M) ∧
    forV (vgNm 3) (vSeq (vDrop (vApp 5 (vPopI 4 (vCall1 V_law_draw 0 [vBlt .len [vVar 4]])))) vNext) (xs.map U.int) [some (.lst p, .io), some z1, some z2, v, some (.lst (M.map .int), .own), some (.lst (A.map .int), .own)] = .nx [some (.lst p', .io), some z1, some z2, v', some (.lst [], .own), some (.lst (L.map .int), .own)]
  | [], M, A, p, v, hp, h1, _ => by
    have : M = [] := List.length_eq_zero_iff.mp h1.symm
    subst this
    exact ⟨A, p, v, hp, by simp, rfl⟩
  | x :: r, M, A, p, v, hp, h1, h2 => by
    simp at h1
    obtain ⟨k, p1, hp1, k0, k1, e1⟩ := draw_V (k := M.length) hp (by omega) (by omega)
    have hk : k.toNat < M.length := by omega
    have le := List.length_eraseIdx_of_lt hk
    obtain ⟨L, p', v', hp', pm, e⟩ := row_loop z1 z2 r (M.eraseIdx k.toNat) (A ++ [M[k.toNat]]) p1 (some (.int x, .shr)) hp1 (by omega) (by simp; omega)
    refine ⟨L, p', v', hp', pm.trans ?_, ?_⟩
    · rw [List.append_assoc]
      exact (erase_split hk).append_left A
    · rw [List.map_cons, for_cons]
      have px : popIx k M.length = some k.toNat := popIx_i k0 (by omega) (by omega)
      have hA : A.length < 16777216 := by omega
      simp [e1, px, hk, map_eraseU, hA]
      simp at e
      exact e
theorem row_V {p : List U} {lo hi : Int} (hp : PoolU p) (z0 : 1 ≤ lo) (z1 : lo ≤ hi) (z2 : hi ≤ 999) : ∃ (L : List Int) (p' : List U), PoolU p' ∧ lo ≤ L.length ∧ (L.length : Int) ≤ hi ∧ HL L ∧ V_law_row [.lst p, .int lo, .int hi] = .ok (.tup (L.map .int)) false (.lst p') := by
  obtain ⟨r, p1, hp1, m0, m1, e1⟩ := draw_V (k := hi - lo + 1) hp (by omega) (by omega)
  obtain ⟨L, p2, hp2, hl, hL, e2⟩ := heights_V (z := lo + r) hp1 (by omega) (by omega)
  have len2 := rgL_len 0 L.length
  obtain ⟨L', p', v', hp', pm, e⟩ := row_loop (.int lo, .bor) (.int hi, .bor) (rgL 0 L.length) L [] p2 none hp2 (by omega) (by simp; omega)
  rw [List.nil_append] at pm
  have hn : (rgL 0 L.length).length < 1000000 := by omega
  have s1 : smallI (L.length : Int) = true := smallI_i (by omega) (by omega)
  refine ⟨L', p', hp', by rw [pm.length_eq]; omega, by rw [pm.length_eq]; omega, hL.perm pm, ?_⟩
  simp [V_law_row, runV1, vb_law_row, e1, e2, hn, s1]
  simp at e
  rw [e]
  simp
end
end PyI
-- PvL2
namespace PyI
noncomputable section
open PySem PySem.Spec L2
def b_is_integer : MS := (mSeq (mRet (mAndE [mBlt .isinst [mVar 0, mLit (.ty "int")], mNotE (mBlt .isinst [mVar 0, mLit (.ty "bool")]), mChain (opC .LtE) (opC .LtE) (mVar 1) (mVar 0) (mVar 2)])) mNext)
def vb_is_integer : VS := vSeq (vRet (vAndE [vBlt .isinst [vVar 0, vLit (.ty "int")], vNotE (vBlt .isinst [vVar 0, vLit (.ty "bool")]), vChain (uC .LtE) (uC .LtE) (vVar 1) (vVar 0) (vVar 2)])) vNext
def V_is_integer : VF := runV vb_is_integer 3 3
theorem sim_is_integer : SimS (b_is_integer) vb_is_integer := sims_seq (sims_ret (sim_andE (.cons (sim_blt (.cons sim_var (.cons (sim_lit fun _ _ => .ty _) .nil))) (.cons (sim_notE (sim_blt (.cons sim_var (.cons (sim_lit fun _ _ => .ty _) .nil)))) (.cons (sim_chain (osim_C _) (osim_C _) sim_var sim_var sim_var) .nil))))) sims_next
def b_is_height (G_is_integer : List D → DH → Res D) : MS := (mSeq (mRet (mCallK G_is_integer 3 3 0 [0, 1, 2] [mVar 0, mLit (.int 1), mLit (.int 999)] [])) mNext)
def vb_is_height : VS := vSeq (vRet (vCall V_is_integer [0, 1, 2] [vVar 0, vLit (.int 1), vLit (.int 999)])) vNext
def V_is_height : VF := runV vb_is_height 1 1
theorem sim_is_height {G_is_integer : List D → DH → Res D} (f_is_integer : FSim G_is_integer V_is_integer) : SimS (b_is_height G_is_integer) vb_is_height := sims_seq (sims_ret (sim_call f_is_integer rfl (.cons sim_var (.cons (sim_lit fun _ _ => .int _) (.cons (sim_lit fun _ _ => .int _) .nil))) rfl rfl)) sims_next
def b_check_row (G_is_height : List D → DH → Res D) : MS := (mSeq (mIfS (mOrT [mNotT (mTru (mBlt .isinst [mVar 0, mLit (.ty "tuple")])), mNotT (mB (mChain (opC .LtE) (opC .LtE) (mLit (.int 1)) (mBlt .len [mVar 0]) (mLit (.int 12))))]) (mSeq mStNo mNext) mNext) (mSeq (mFor (iEnumM (mVar 0)) (gTp [gNm 1, gNm 2]) (mSeq (mIfS (mOrT [mNotT (mTru (mCallK G_is_height 1 1 0 [0] [mVar 2] [])), mB (mBin (opC .In) (mVar 2) (mSl (mVar 0) oNone (mPart (mVar 1))))]) (mSeq mStNo mNext) mNext) mNext)) mNext))
def vl_check_row_1 : VS := vSeq (vIfS (vOrT [vNotT (vTru (vCall V_is_height [0] [vVar 2])), vB (vBin (uC .In) (vVar 2) (vSl (vVar 0) vNone (vPart (vVar 1))))]) (vSeq vStNo vNext) vNext) vNext
def vb_check_row : VS := vSeq (vIfS (vOrT [vNotT (vTru (vBlt .isinst [vVar 0, vLit (.ty "tuple")])), vNotT (vB (vChain (uC .LtE) (uC .LtE) (vLit (.int 1)) (vBlt .len [vVar 0]) (vLit (.int 12))))]) (vSeq vStNo vNext) vNext) (vSeq (vFor (vEnum (vVar 0)) (vgTp [vgNm 1, vgNm 2]) vl_check_row_1) vNext)
def V_check_row : VF := runV vb_check_row 1 3
theorem sim_check_row {G_is_height : List D → DH → Res D} (f_is_height : FSim G_is_height V_is_height) : SimS (b_check_row G_is_height) vb_check_row := sims_seq (sims_if (sim_orT (.cons (sim_notT (sim_tru (sim_blt (.cons sim_var (.cons (sim_lit fun _ _ => .ty _) .nil))))) (.cons (sim_notT (sim_B (sim_chain (osim_C _) (osim_C _) (sim_lit fun _ _ => .int _) (sim_blt (.cons sim_var .nil)) (sim_lit fun _ _ => .int _)))) .nil))) (sims_seq sims_no sims_next) sims_next) (sims_seq (sims_for (simi_enum sim_var) (simg_tp (.cons simg_nm (.cons simg_nm .nil))) (sims_seq (sims_if (sim_orT (.cons (sim_notT (sim_tru (sim_call f_is_height rfl (.cons sim_var .nil) rfl rfl))) (.cons (sim_B (sim_bin (osim_C _) sim_var (sim_sl sim_var sim_none (sim_part sim_var)))) .nil))) (sims_seq sims_no sims_next) sims_next) sims_next)) sims_next)
def b_is_kind : MS := (mSeq (mRet (mAndE [mBlt .isinst [mVar 0, mLit (.ty "str")], mBin (opC .In) (mVar 0) (mLit (.tup [.str "S", .str "T"]))])) mNext)
def vb_is_kind : VS := vSeq (vRet (vAndE [vBlt .isinst [vVar 0, vLit (.ty "str")], vBin (uC .In) (vVar 0) (vLit (.tup [.str "S", .str "T"]))])) vNext
def V_is_kind : VF := runV vb_is_kind 1 1
theorem sim_is_kind : SimS (b_is_kind) vb_is_kind := sims_seq (sims_ret (sim_andE (.cons (sim_blt (.cons sim_var (.cons (sim_lit fun _ _ => .ty _) .nil))) (.cons (sim_bin (osim_C _) sim_var (sim_lit fun _ _ => .tup (.cons (.str _) (.cons (.str _) .nil)))) .nil)))) sims_next
def b_check_kind (G_is_kind : List D → DH → Res D) : MS := (mSeq (mIfS (mNotT (mTru (mCallK G_is_kind 1 1 0 [0] [mVar 0] []))) (mSeq mStNo mNext) mNext) mNext)
def vb_check_kind : VS := vSeq (vIfS (vNotT (vTru (vCall V_is_kind [0] [vVar 0]))) (vSeq vStNo vNext) vNext) vNext
def V_check_kind : VF := runV vb_check_kind 1 1
theorem sim_check_kind {G_is_kind : List D → DH → Res D} (f_is_kind : FSim G_is_kind V_is_kind) : SimS (b_check_kind G_is_kind) vb_check_kind := sims_seq (sims_if (sim_notT (sim_tru (sim_call f_is_kind rfl (.cons sim_var .nil) rfl rfl))) (sims_seq sims_no sims_next) sims_next) sims_next
def b_at_chair : MS := (mSeq (mAsg (mVar 0) (gStM [gNm 3, gNm 6])) (mSeq (mPar [4, 5] [mLst [], mLst [mVar 3]]) (mSeq (mFor (iPlain (mVar 6)) (gNm 2) (mSeq (mIfS (mB (mBin (opC .Eq) (mBin (opC .Gt) (mVar 2) (mVar 3)) (mBin (opC .Eq) (mVar 1) (mLit (.str "T"))))) (mSeq (mDrop (mMeth "append" (mVar 4) [mVar 3])) (mSeq (mDrop (mMeth "append" (mVar 5) [mVar 2])) (mSeq (mAsg (mVar 2) (gNm 3)) mNext))) (mSeq (mDrop (mMeth "append" (mVar 4) [mVar 2])) mNext)) mNext)) (mSeq (mRet (mTup [mBlt .tuple [mBin (opB .Add) (mVar 4) (mLst [mVar 3])], mBlt .tuple [mVar 5]])) mNext))))
def vl_at_chair_1 : VS := vSeq (vIfS (vB (vBin (uC .Eq) (vBin (uC .Gt) (vVar 2) (vVar 3)) (vBin (uC .Eq) (vVar 1) (vLit (.str "T"))))) (vSeq (vDrop (vApp 4 (vVar 3))) (vSeq (vDrop (vApp 5 (vVar 2))) (vSeq (vAsg (vVar 2) 3) vNext))) (vSeq (vDrop (vApp 4 (vVar 2))) vNext)) vNext
def vb_at_chair : VS := vSeq (vAsgG (vVar 0) (vgStM [vgNm 3, vgNm 6])) (vSeq (vPar [4, 5] [vLst [], vLst [vVar 3]]) (vSeq (vFor (vPlain (vVar 6)) (vgNm 2) vl_at_chair_1) (vSeq (vRet (vTup [vBlt .tuple [vBin (uB .Add) (vVar 4) (vLst [vVar 3])], vBlt .tuple [vVar 5]])) vNext)))
def V_at_chair : VF := runV vb_at_chair 2 7
theorem sim_at_chair : SimS (b_at_chair) vb_at_chair := sims_seq (sims_asgG sim_var (simg_st (.cons simg_nm (.cons simg_nm .nil)))) (sims_seq (sims_par (.cons (sim_lst .nil) (.cons (sim_lst (.cons sim_var .nil)) .nil))) (sims_seq (sims_for (simi_plain sim_var) simg_nm (sims_seq (sims_if (sim_B (sim_bin (osim_C _) (sim_bin (osim_C _) sim_var sim_var) (sim_bin (osim_C _) sim_var (sim_lit fun _ _ => .str _)))) (sims_seq (sims_drop (sim_app sim_var)) (sims_seq (sims_drop (sim_app sim_var)) (sims_seq (sims_asg sim_var) sims_next))) (sims_seq (sims_drop (sim_app sim_var)) sims_next)) sims_next)) (sims_seq (sims_ret (sim_tup (.cons (sim_blt (.cons (sim_bin (osim_B _) sim_var (sim_lst (.cons sim_var .nil))) .nil)) (.cons (sim_blt (.cons sim_var .nil)) .nil)))) sims_next)))
def b_single_pass (G_check_row G_check_kind G_at_chair : List D → DH → Res D) : MS := (mSeq (mDrop (mCallK G_check_row 1 1 0 [0] [mVar 0] [])) (mSeq (mDrop (mCallK G_check_kind 1 1 0 [0] [mVar 1] [])) (mSeq (mRet (mBin opI (mCallK G_at_chair 2 2 0 [0, 1] [mVar 0, mVar 1] []) (mLit (.int 0)))) mNext)))
def vb_single_pass : VS := vSeq (vDrop (vCall V_check_row [0] [vVar 0])) (vSeq (vDrop (vCall V_check_kind [0] [vVar 1])) (vSeq (vRet (vBin uI (vCall V_at_chair [0, 1] [vVar 0, vVar 1]) (vLit (.int 0)))) vNext))
def V_single_pass : VF := runV vb_single_pass 2 2
theorem sim_single_pass {G_check_row G_check_kind G_at_chair : List D → DH → Res D} (f_check_row : FSim G_check_row V_check_row) (f_check_kind : FSim G_check_kind V_check_kind) (f_at_chair : FSim G_at_chair V_at_chair) : SimS (b_single_pass G_check_row G_check_kind G_at_chair) vb_single_pass := sims_seq (sims_drop (sim_call f_check_row rfl (.cons sim_var .nil) rfl rfl)) (sims_seq (sims_drop (sim_call f_check_kind rfl (.cons sim_var .nil) rfl rfl)) (sims_seq (sims_ret (sim_bin osim_I (sim_call f_at_chair rfl (.cons sim_var (.cons sim_var .nil)) rfl rfl) (sim_lit fun _ _ => .int _))) sims_next))
def b_law_single : MS := (mSeq (mPar [3, 4] [mBin opI (mVar 0) (mLit (.int 0)), mLst []]) (mSeq (mFor (iPlain (mSl (mVar 0) (mPart (mLit (.int 1))) oNone)) (gNm 2) (mSeq (mIfS (mB (mBin (opC .Eq) (mBin (opC .Gt) (mVar 2) (mVar 3)) (mBin (opC .Eq) (mVar 1) (mLit (.str "T"))))) (mSeq (mDrop (mMeth "append" (mVar 4) [mVar 3])) (mSeq (mAsg (mVar 2) (gNm 3)) mNext)) (mSeq (mDrop (mMeth "append" (mVar 4) [mVar 2])) mNext)) mNext)) (mSeq (mRet (mBlt .tuple [mBin (opB .Add) (mVar 4) (mLst [mVar 3])])) mNext)))
def vl_law_single_1 : VS := vSeq (vIfS (vB (vBin (uC .Eq) (vBin (uC .Gt) (vVar 2) (vVar 3)) (vBin (uC .Eq) (vVar 1) (vLit (.str "T"))))) (vSeq (vDrop (vApp 4 (vVar 3))) (vSeq (vAsg (vVar 2) 3) vNext)) (vSeq (vDrop (vApp 4 (vVar 2))) vNext)) vNext
def vb_law_single : VS := vSeq (vPar [3, 4] [vBin uI (vVar 0) (vLit (.int 0)), vLst []]) (vSeq (vFor (vPlain (vSl (vVar 0) (vPart (vLit (.int 1))) vNone)) (vgNm 2) vl_law_single_1) (vSeq (vRet (vBlt .tuple [vBin (uB .Add) (vVar 4) (vLst [vVar 3])])) vNext))
def V_law_single : VF := runV vb_law_single 2 5
theorem sim_law_single : SimS (b_law_single) vb_law_single := sims_seq (sims_par (.cons (sim_bin osim_I sim_var (sim_lit fun _ _ => .int _)) (.cons (sim_lst .nil) .nil))) (sims_seq (sims_for (simi_plain (sim_sl sim_var (sim_part (sim_lit fun _ _ => .int _)) sim_none)) simg_nm (sims_seq (sims_if (sim_B (sim_bin (osim_C _) (sim_bin (osim_C _) sim_var sim_var) (sim_bin (osim_C _) sim_var (sim_lit fun _ _ => .str _)))) (sims_seq (sims_drop (sim_app sim_var)) (sims_seq (sims_asg sim_var) sims_next)) (sims_seq (sims_drop (sim_app sim_var)) sims_next)) sims_next)) (sims_seq (sims_ret (sim_blt (.cons (sim_bin (osim_B _) sim_var (sim_lst (.cons sim_var .nil))) .nil))) sims_next))
theorem is_integer_V (x a b : Int) : V_is_integer [.int x, .int a, .int b] = .ok (.bl (decide (a ≤ x) && decide (x ≤ b))) false .non := by
  by_cases h : a ≤ x
  · simp [V_is_integer, runV, vb_is_integer, h]
  · simp [V_is_integer, runV, vb_is_integer, h]
theorem is_height_V (x : Int) : V_is_height [.int x] = .ok (.bl (decide (1 ≤ x) && decide (x ≤ 999))) false .non := by
  simp [V_is_height, runV, vb_is_height, is_integer_V]
theorem inU_ints (x : Int) (L : List Int) : inU (.int x) (.tup (L.map .int)) = some (decide (x ∈ L)) := by
  have a : (flatU (.int x) && (L.map U.int).all flatU) = true := by
    simp [flatU]
  have b : inFU (.int x) (L.map U.int) = decide (x ∈ L) := by
    unfold inFU
    rw [List.any_map, Bool.eq_iff_iff]
    simp [eqFU, Function.comp]
  show (if (flatU (.int x) && (L.map U.int).all flatU) = true then some (inFU (.int x) (L.map U.int)) else none) = _
  rw [if_pos a, b]
theorem cut_to {α : Type} (xs : List α) (k : Nat) : cutL xs none (some (k : Int)) = xs.take k := cut_head xs k
theorem cut_from {α : Type} (xs : List α) (k : Nat) : cutL xs (some (k : Int)) none = xs.drop k := by
  unfold cutL
  rw [HT.sIx_none, HT.sIx_nat]
  by_cases h : k ≤ xs.length
  · rw [Nat.min_eq_left h, List.take_of_length_le (by rw [List.length_drop]; omega)]
  · rw [Nat.min_eq_right (by omega), List.drop_eq_nil_of_le (Nat.le_refl _), List.drop_eq_nil_of_le (by omega), List.take_nil]
theorem check_loop {L : List Int} (hl : HL L) : ∀ (rest : List Int) (k : Nat) (v w : Option (U × Fl)), L.drop k = rest → ∃ v' w',
    forV (vgTp [vgNm 1, vgNm 2]) vl_check_row_1 (enumU k (rest.map U.int)) [some (.tup (L.map .int), .bor), v, w] = .nx [some (.tup (L.map .int), .bor), v', w']
  | [], k, v, w, _ => ⟨v, w, rfl⟩
  | x :: r, k, v, w, hd => by
    have hx : L[k]? = some x := by rw [← List.head?_drop, hd]; rfl
    have hk := lt_of_get hx
    have xe : L[k] = x := by rw [List.getElem?_eq_getElem hk] at hx; exact Option.some.inj hx
    have m := hl.rg x (List.mem_of_getElem? hx)
    have nm : x ∉ L.take k := by
      intro hm
      obtain ⟨j, hj, e⟩ := List.mem_iff_getElem.mp hm
      rw [List.length_take] at hj
      rw [List.getElem_take, ← xe] at e
      have := (List.getElem_inj hl.nd).mp e
      omega
    obtain ⟨v', w', e⟩ := check_loop hl r (k + 1) (some (.int k, .shr)) (some (.int x, .shr)) (by rw [← List.drop_drop, hd]; rfl)
    refine ⟨v', w', ?_⟩
    have ci : inU (.int x) (.tup ((L.map U.int).take k)) = some false := by rw [← List.map_take, inU_ints]; simp [nm]
    rw [List.map_cons, enumU, for_cons]
    simp [vl_check_row_1, is_height_V, m, cut_to, ci]
    simpa [vl_check_row_1] using e
theorem enumU_length (k : Nat) (l : List U) : (enumU k l).length = l.length := enumU_len
theorem check_row_V {L : List Int} (hl : HL L) (h0 : 1 ≤ L.length) (h1 : L.length ≤ 12) : V_check_row [.tup (L.map .int)] = .ok .non false .non := by
  have c0 : (1 : Int) ≤ (L.length : Int) := by omega
  have c1 : (L.length : Int) ≤ 12 := by omega
  obtain ⟨v', w', e⟩ := check_loop hl L 0 none none rfl
  have hn : L.length < 1000000 := by omega
  simp [V_check_row, runV, vb_check_row, c0, c1, enumU_length, hn, e]
def kd (t : Bool) : Str := if t then "T" else "S"
theorem inU_kind (t : Bool) : inU (.str (kd t)) (.tup [.str "S", .str "T"]) = some true := by cases t <;> rfl
theorem is_kind_V (t : Bool) : V_is_kind [.str (kd t)] = .ok (.bl true) false .non := by
  simp [V_is_kind, runV, vb_is_kind, inU_kind]
theorem check_kind_V (t : Bool) : V_check_kind [.str (kd t)] = .ok .non false .non := by
  simp [V_check_kind, runV, vb_check_kind, is_kind_V]
theorem kd_T (t : Bool) : decide (kd t = ("T" : Str)) = t := by cases t <;> decide
/-- the row behind the chair, the sitters -/
def passG (t : Bool) : Int → List Int → List Int
  | s, [] => [s]
  | s, p :: r => if decide (s < p) = t then s :: passG t p r else p :: passG t s r
def sitG (t : Bool) : Int → List Int → List Int
  | _, [] => []
  | s, p :: r => if decide (s < p) = t then p :: sitG t p r else sitG t s r
def passL (t : Bool) : List Int → List Int
  | [] => []
  | s :: r => passG t s r
def sitL (t : Bool) : List Int → List Int
  | [] => []
  | s :: r => s :: sitG t s r
theorem chair_loop (rw kk : U × Fl) (t : Bool) (hk : kk = (.str (kd t), .bor)) (ot : Option (U × Fl)) : ∀ (r : List Int) (s : Int) (A B : List Int) (v : Option (U × Fl)), A.length + r.length < 100000 → B.length + r.length < 100000 → ∃ (s' : Int) (A' B' : List Int) (v' : Option (U × Fl)), A' ++ [s'] = A ++ passG t s r ∧ B' = B ++ sitG t s r ∧ A'.length < 100000 ∧
    forV (vgNm 2) vl_at_chair_1 (r.map U.int) [some rw, some kk, v, some (.int s, .shr), some (.lst (A.map .int), .own), some (.lst (B.map .int), .own), ot] = .nx [some rw, some kk, v', some (.int s', .shr), some (.lst (A'.map .int), .own), some (.lst (B'.map .int), .own), ot]
  | [], s, A, B, v, h1, _ => ⟨s, A, B, v, rfl, by simp [sitG], by simpa using h1, rfl⟩
  | p :: r, s, A, B, v, h1, h2 => by
    subst hk
    simp only [List.length_cons] at h1 h2
    have a1 : A.length < 16777216 := by omega
    have b1 : B.length < 16777216 := by omega
    by_cases c : decide (s < p) = t
    · obtain ⟨s', A', B', v', e1, e2, e3, e⟩ := chair_loop rw (.str (kd t), .bor) t rfl ot r p (A ++ [s]) (B ++ [p]) (some (.int p, .shr)) (by simp; omega) (by simp; omega)
      refine ⟨s', A', B', v', by rw [e1, passG, if_pos c]; simp, by rw [e2, sitG, if_pos c]; simp, e3, ?_⟩
      rw [List.map_cons, for_cons]
      simp [vl_at_chair_1, kd_T, c, a1, b1]
      simpa [vl_at_chair_1] using e
    · obtain ⟨s', A', B', v', e1, e2, e3, e⟩ := chair_loop rw (.str (kd t), .bor) t rfl ot r s (A ++ [p]) B (some (.int p, .shr)) (by simp; omega) (by omega)
      refine ⟨s', A', B', v', by rw [e1, passG, if_neg c]; simp, by rw [e2, sitG, if_neg c], e3, ?_⟩
      rw [List.map_cons, for_cons]
      simp [vl_at_chair_1, kd_T, c, a1, b1]
      simpa [vl_at_chair_1] using e
theorem sitG_len (t : Bool) : ∀ (r : List Int) (s : Int), (sitG t s r).length ≤ r.length
  | [], _ => Nat.le_refl _
  | p :: r, s => by
    have a := sitG_len t r p
    have b := sitG_len t r s
    unfold sitG
    split <;> simp <;> omega
theorem at_chair_V (t : Bool) {L : List Int} (h0 : 1 ≤ L.length) (h1 : L.length ≤ 1000) : V_at_chair [.tup (L.map .int), .str (kd t)] = .ok (.tup [.tup ((passL t L).map .int), .tup ((sitL t L).map .int)]) false .non := by
  cases L with
  | nil => simp at h0
  | cons s r =>
    simp only [List.length_cons] at h1
    obtain ⟨s', A', B', v', e1, e2, e3, e⟩ := chair_loop (.tup ((s :: r).map .int), .bor) (.str (kd t), .bor) t rfl (some (.lst (r.map .int), .shr)) r s [] [s] none (by simp; omega) (by simp; omega)
    have hn : r.length < 1000000 := by omega
    have ha : A'.length + 1 ≤ 16777216 := by omega
    have hp : passL t (s :: r) = A' ++ [s'] := by rw [e1]; rfl
    have hs : sitL t (s :: r) = B' := by rw [e2]; rfl
    rw [hp, hs]
    simp at e
    simp [V_at_chair, runV, vb_at_chair, hn, e, ha]
theorem single_pass_V (t : Bool) {L : List Int} (hl : HL L) (h0 : 1 ≤ L.length) (h1 : L.length ≤ 12) : V_single_pass [.tup (L.map .int), .str (kd t)] = .ok (.tup ((passL t L).map .int)) false .non := by
  simp [V_single_pass, runV, vb_single_pass, check_row_V hl h0 h1, check_kind_V, at_chair_V t h0 (by omega), atu0]
end
end PyI
-- PyZa
/-! PyZa: the law's own line -/
namespace PyI
noncomputable section
open PySem PySem.Spec L2
def CellOk (F : List D → DH → Res D) : Prop := ∀ (h : DH) (ns : List Int) (i : Int), 0 ≤ i → i < 1000 → wpR (F [.scr ns, .int i] h) (fun d h' => ∃ i, d = .int i ∧ ∃ l, h' = h ++ l) fun _ _ => False
def PoolOk (F : List D → DH → Res D) : Prop := ∀ (h : DH) (i : Int), wpR (F [.int i] h) (fun d h' => d = .ref h.length ∧ Pool h' h.length ∧ ∃ o, h' = h ++ [o]) fun _ _ => False
def RightOk (F : List D → DH → Res D) : Prop := ∀ (h : DH) (n : Nat), Pool h n → wpR (F [.ref n] h) (fun d _ => d = .bl true) fun _ _ => False
def h_law (N : Int) (R1 P1 C1 : List D → DH → Res D) : MS := (mSeq (mRet (mBlt .all [mLc (iRange rngOf1 [mBlt .max [mLit (.int 2), mBlt .min [mBlt .len [mVar 0], mLit (.int N)]]]) (gNm 1) tYesM (mCallK R1 1 1 0 [0] [mCallK P1 1 1 0 [0] [mCallK C1 2 2 0 [0, 1] [mVar 0, mVar 1] []] []] []) [1]])) mNext)
theorem boolsOf_map : ∀ L : List Bool, boolsOf (L.map D.bl) = some L
  | [] => rfl
  | x :: r => by
    show (boolsOf (r.map D.bl)).map (x :: ·) = _
    rw [boolsOf_map r]
    rfl
theorem all_at {h : DH} {m : Nat} {L : List Bool} (e : h[m]? = some (.lst (L.map D.bl))) : bltF .all [.ref m] h = .ok (.bl (L.all id)) h := by
  have q : (listOf h (.ref m)).bind boolsOf = some L := by
    unfold listOf
    dsimp only
    rw [e]
    exact boolsOf_map L
  unfold bltF
  dsimp only
  rw [q]
  rfl
theorem smallI_of {i : Int} (h0 : -4611686018427387904 ≤ i) (h1 : i < 4611686018427387904) : smallI i = true := by
  unfold smallI
  rw [hid_eq]
  simp
  omega
theorem law_ok {R1 P1 C1 : List D → DH → Res D} (hr : RightOk R1) (hp : PoolOk P1) (hc : CellOk C1) {N : Int} (h0 : 2 ≤ N) (h1 : N ≤ 900) (ns : List Int) :
    ∃ h', runB (h_law N R1 P1 C1) 2 [.scr ns] [] = .ok (.bl true) h' := by
  have key : wpR (runB (h_law N R1 P1 C1) 2 [.scr ns] []) (fun d _ => d = .bl true) fun _ _ => False := by
    simp [h_law]
    obtain ⟨z, hz⟩ : ∃ z : Int, z = (if 2 < (if N < (ns.length : Int) then N else (ns.length : Int)) then (if N < (ns.length : Int) then N else (ns.length : Int)) else 2) := ⟨_, rfl⟩
    rw [← hz]
    have z0 : 0 ≤ z := by rw [hz]; split <;> (try split) <;> omega
    have z1 : z ≤ 900 := by rw [hz]; split <;> (try split) <;> omega
    have sm : smallI z = true := smallI_of (by omega) (by omega)
    simp [sm]
    refine lc_fix (fun i acc h => acc = List.replicate i (.bl true)) rfl (by omega) (fun i acc h hi inv => ?_) fun acc h inv => ?_
    · subst inv
      simp
      refine wpR_mono (hc h ns i (by omega) (by omega)) fun d h1 hd => ?_
      obtain ⟨c, rfl, l, rfl⟩ := hd
      refine wpR_mono (hp (h ++ l) c) fun d h2 hd => ?_
      obtain ⟨rfl, pp, o, rfl⟩ := hd
      refine wpR_mono (hr _ _ pp) fun d h3 hd => ?_
      subst hd
      refine ⟨by omega, ?_⟩
      rw [List.replicate_succ']
    · subst inv
      have e : (h ++ [O.lst (List.replicate z.toNat (D.bl true))])[h.length]? = some (.lst ((List.replicate z.toNat true).map D.bl)) := by simp
      rw [all_at e]
      simp
  obtain ⟨d, h', e, rfl⟩ := wpR_ex key
  exact ⟨h', e⟩
end
end PyI
-- PyZb
/-! PyZb: the row's check -/
namespace PyI
noncomputable section
open PySem PySem.Spec L2
def p_is_integer : MS := (mSeq (mRet (mAndE [mBlt .isinst [mVar 0, mLit (.ty "int")], mNotE (mBlt .isinst [mVar 0, mLit (.ty "bool")]), mChain (opC .LtE) (opC .LtE) (mVar 1) (mVar 0) (mVar 2)])) mNext)
def p_is_height (I1 : List D → DH → Res D) : MS := (mSeq (mRet (mCallK I1 3 3 0 [0, 1, 2] [mVar 0, mLit (.int 1), mLit (.int 999)] [])) mNext)
def p_check_row (I2 : List D → DH → Res D) : MS := (mSeq (mIfS (mOrT [mNotT (mTru (mBlt .isinst [mVar 0, mLit (.ty "tuple")])), mNotT (mB (mChain (opC .LtE) (opC .LtE) (mLit (.int 1)) (mBlt .len [mVar 0]) (mLit (.int 12))))]) (mSeq mStNo mNext) mNext) (mSeq (mFor (iEnumM (mVar 0)) (gTp [gNm 1, gNm 2]) (mSeq (mIfS (mOrT [mNotT (mTru (mCallK I2 1 1 0 [0] [mVar 2] [])), mB (mBin (opC .In) (mVar 2) (mSl (mVar 0) oNone (mPart (mVar 1))))]) (mSeq mStNo mNext) mNext) mNext)) mNext))
@[simp] theorem isi_int {h : DH} {i : Int} : isi h (.int i) "int" = some true := rfl
@[simp] theorem isi_intb {h : DH} {i : Int} : isi h (.int i) "bool" = some false := rfl
@[simp] theorem isi_tup {h : DH} {xs : List D} : isi h (.tup xs) "tuple" = some true := rfl
def IntegerOk (F : List D → DH → Res D) : Prop := ∀ (h : DH) (x a b : Int), wpR (F [.int x, .int a, .int b] h) (fun d h' => d = .bl (decide (a ≤ x) && decide (x ≤ b)) ∧ h' = h) fun _ _ => False
def HeightOk (F : List D → DH → Res D) : Prop := ∀ (h : DH) (x : Int), 1 ≤ x → x ≤ 999 → wpR (F [.int x] h) (fun d h' => d = .bl true ∧ h' = h) fun _ _ => False
def CheckOk (F : List D → DH → Res D) : Prop := ∀ (h : DH) (L : List Int), HL L → 1 ≤ L.length → L.length ≤ 12 → wpR (F [.tup (L.map D.int)] h) (fun d h' => d = .non ∧ h' = h) fun _ _ => False
theorem integer_ok {h : DH} {x a b : Int} : wpR (runB p_is_integer 3 [.int x, .int a, .int b] h) (fun d h' => d = .bl (decide (a ≤ x) && decide (x ≤ b)) ∧ h' = h) fun _ _ => False := by
  simp [p_is_integer]
  split
  · rename_i q; simp [q]
  · rename_i q; simp [q]
theorem height_ok {I1 : List D → DH → Res D} (hi : IntegerOk I1) {h : DH} {x : Int} (h0 : 1 ≤ x) (h1 : x ≤ 999) : wpR (runB (p_is_height I1) 1 [.int x] h) (fun d h' => d = .bl true ∧ h' = h) fun _ _ => False := by
  simp [p_is_height]
  refine wpR_mono (hi h x 1 999) fun d h' hd => ?_
  obtain ⟨rfl, rfl⟩ := hd
  simp [h0, h1]
theorem in_tup {h : DH} {L : List Int} {x : Int} : inD h (.int x) (.tup (L.map D.int)) = some (decide (x ∈ L)) := by
  have a : (flatD (.int x) && (L.map D.int).all flatD) = true := by
    simp [flatD]
  have b : inF (.int x) (L.map D.int) = decide (x ∈ L) := by
    unfold inF
    rw [List.any_map]
    rw [Bool.eq_iff_iff]
    simp [eqF, Function.comp]
  show (if (flatD (.int x) && (L.map D.int).all flatD) = true then some (inF (.int x) (L.map D.int)) else none) = _
  rw [if_pos a, b]
theorem sl_tup {h : DH} {xs : List D} {k : Nat} : opSl (.tup xs) none (some (k : Int)) h = .ok (.tup (xs.take k)) h := by
  show Res.ok (D.tup (cutL xs none (some (k : Int)))) h = _
  rw [cut_head]
@[simp] theorem c_in {h : DH} {x y : D} : opC .In x y h = retB (inD h x y) h := rfl
theorem check_ok {I2 : List D → DH → Res D} (hh : HeightOk I2) {h : DH} {L : List Int} (hl : HL L) (h0 : 1 ≤ L.length) (h1 : L.length ≤ 12) : wpR (runB (p_check_row I2) 3 [.tup (L.map D.int)] h) (fun d h' => d = .non ∧ h' = h) fun _ _ => False := by
  have c0 : (1 : Int) ≤ (L.length : Int) := by omega
  have c1 : (L.length : Int) ≤ 12 := by omega
  simp [p_check_row, c0, c1, enumOf]
  unfold isEnum
  refine for_fix (fun i s h' => (∃ u v, s = [some (.tup (L.map D.int)), u, v]) ∧ h' = h) ⟨⟨none, none, rfl⟩, rfl⟩ (by simp; omega) (fun i s h' hi inv => ?_) fun s h' inv => ?_
  · obtain ⟨⟨u, v, rfl⟩, rfl⟩ := inv
    have hi : i < L.length := by simpa using hi
    have eg : (L.map D.int).getD i .non = .int L[i] := by rw [List.getD_eq_getElem?_getD, List.getElem?_map, List.getElem?_eq_getElem hi]; rfl
    rw [eg]
    have m := hl.rg L[i] (List.getElem_mem hi)
    simp
    refine wpR_mono (hh h' L[i] m.1 m.2) fun d h2 hd => ?_
    obtain ⟨rfl, rfl⟩ := hd
    simp [sl_tup]
    rw [← List.map_take, in_tup]
    have nm : L[i] ∉ L.take i := by
      intro hm
      obtain ⟨j, hj, e⟩ := List.mem_iff_getElem.mp hm
      rw [List.length_take] at hj
      rw [List.getElem_take] at e
      have := (List.getElem_inj hl.nd).mp e
      omega
    simp [nm]
  · obtain ⟨_, rfl⟩ := inv
    simp
end
end PyI
-- PyZc
/-! PyZc: equal values; lists of ints, texts -/
namespace PyI
noncomputable section
open PySem PySem.Spec L2
theorem eqvAll_ints : ∀ L M : List Int, PyData.eqvAll (L.map PyData.int) (M.map PyData.int) = decide (L = M)
  | [], [] => by rw [List.map_nil, PyData.eqvAll]; rfl
  | [], _ :: _ => by rw [List.map_nil, List.map_cons, PyData.eqvAll]; rfl
  | _ :: _, [] => by rw [List.map_nil, List.map_cons, PyData.eqvAll]; rfl
  | x :: L, y :: M => by
    rw [List.map_cons, List.map_cons, PyData.eqvAll, PyData.eqv, eqvAll_ints L M]
    by_cases h : x = y
    · subst h; simp
    · simp [h]
theorem toPys_ints (f : Nat) (h : DH) : ∀ L : List Int, (L.map D.int).mapM (toPy (f + 1) h) = some (L.map PyData.int)
  | [] => rfl
  | x :: r => by
    rw [List.map_cons, List.mapM_cons, toPys_ints f h r]
    rfl
theorem toPy_lst {f : Nat} {h : DH} {m : Nat} {L : List Int} (e : h[m]? = some (.lst (L.map D.int))) : toPy (f + 2) h (.ref m) = some (.list (L.map PyData.int)) := by
  show (match h[m]? with | some (.lst xs) => (xs.mapM (toPy (f + 1) h)).map PyData.list | _ => none) = _
  rw [e]
  dsimp only
  rw [toPys_ints]
  rfl
theorem toPy_tup {f : Nat} {h : DH} {L : List Int} : toPy (f + 2) h (.tup (L.map D.int)) = some (.tuple (L.map PyData.int)) := by
  show ((L.map D.int).mapM (toPy (f + 1) h)).map PyData.tuple = _
  rw [toPys_ints]
  rfl
theorem lay_ints : ∀ L : List Int, PyData.canLayAll0 (L.map PyData.int) = true
  | [] => by rw [List.map_nil, PyData.canLayAll0]
  | x :: r => by rw [List.map_cons, PyData.canLayAll0, lay_ints r, PyData.canLay0]; rfl
theorem dep_ints : ∀ L : List Int, PyData.depthAll (L.map PyData.int) = 0
  | [] => by rw [List.map_nil, PyData.depthAll]
  | x :: r => by rw [List.map_cons, PyData.depthAll, dep_ints r, PyData.depth]; rfl
theorem shaped_lst (L : List Int) : SeqAt.shaped (.list (L.map PyData.int)) = true := by
  unfold SeqAt.shaped
  rw [PyData.canLay0, lay_ints, PyData.depth, dep_ints]
  rfl
theorem shaped_tup (L : List Int) : SeqAt.shaped (.tuple (L.map PyData.int)) = true := by
  unfold SeqAt.shaped
  rw [PyData.canLay0, lay_ints, PyData.depth, dep_ints]
  rfl
section
variable {h : DH} {m n : Nat} {L M : List Int}
theorem eq_lst (e : h[m]? = some (.lst (L.map D.int))) (f : h[n]? = some (.lst (M.map D.int))) : eqD h (.ref m) (.ref n) = some (decide (L = M)) := by
  unfold eqD
  rw [toPy_lst e, toPy_lst f]
  dsimp only
  rw [shaped_lst, shaped_lst, if_pos (show (true && true) = true from rfl), PyData.eqv, eqvAll_ints]
theorem eq_tup : eqD h (.tup (L.map D.int)) (.tup (M.map D.int)) = some (decide (L = M)) := by
  unfold eqD
  rw [toPy_tup, toPy_tup]
  dsimp only
  rw [shaped_tup, shaped_tup, if_pos (show (true && true) = true from rfl), PyData.eqv, eqvAll_ints]
@[simp] theorem c_neR : opC .NotEq (.ref m) (.ref n) h = retB ((eqD h (.ref m) (.ref n)).map not) h := rfl
@[simp] theorem c_eqR : opC .Eq (.ref m) (.ref n) h = retB (eqD h (.ref m) (.ref n)) h := rfl
@[simp] theorem c_neT {a b : List D} : opC .NotEq (.tup a) (.tup b) h = retB ((eqD h (.tup a) (.tup b)).map not) h := rfl
@[simp] theorem c_eqT {a b : List D} : opC .Eq (.tup a) (.tup b) h = retB (eqD h (.tup a) (.tup b)) h := rfl
end
/-! ### places in a sorted list -/
theorem idx_sorted {x : Int} : ∀ {M : List Int}, M.Pairwise (· < ·) → x ∈ M → idxF (.int x) (M.map D.int) = some (M.filter fun y => decide (y < x)).length
  | y :: r, hs, hx => by
    rw [List.pairwise_cons] at hs
    show (if eqF (.int y) (.int x) = true then some 0 else (idxF (.int x) (r.map D.int)).map (· + 1)) = _
    by_cases e : y = x
    · subst e
      have ef : eqF (.int y) (.int y) = true := by simp [eqF]
      rw [if_pos ef]
      have : ((y :: r).filter fun z => decide (z < y)) = [] := by
        rw [List.filter_eq_nil_iff]
        intro z hz
        rcases List.mem_cons.mp hz with q | q
        · subst q; simp
        · have := hs.1 z q
          simp
          omega
      rw [this]
      rfl
    · have ef : eqF (.int y) (.int x) ≠ true := by simp [eqF, e]
      rw [if_neg ef]
      have hx2 : x ∈ r := (List.mem_cons.mp hx).resolve_left fun q => e q.symm
      rw [idx_sorted hs.2 hx2]
      have := hs.1 x hx2
      rw [List.filter_cons_of_pos (by simpa using this)]
      rfl
theorem isort_lt {L : List Int} (h : L.Nodup) : (isort L).Pairwise (· < ·) := by
  have a := isort_pw L
  have b : (isort L).Nodup := (isort_perm L).nodup_iff.mpr h
  rw [List.nodup_iff_pairwise_ne] at b
  refine (a.and b).imp fun {x y} q => ?_
  have := q.1
  have := q.2
  omega
theorem idx_isort {L : List Int} {x : Int} (h : L.Nodup) (hx : x ∈ L) : idxF (.int x) ((isort L).map D.int) = some (L.filter fun y => decide (y < x)).length := by
  rw [idx_sorted (isort_lt h) ((isort_perm L).mem_iff.mpr hx), ((isort_perm L).filter _).length_eq]
theorem index_at {h : DH} {m : Nat} {M : List Int} {x : Int} (e : h[m]? = some (.lst (M.map D.int))) : mthF .lindex (.ref m) [.int x] h = retD ((idxF (.int x) (M.map D.int)).map fun k => .int (k : Nat)) h := by
  have a : (flatD (.int x) && (M.map D.int).all flatD) = true := by simp [flatD]
  unfold mthF
  dsimp only
  rw [e]
  dsimp only
  rw [if_pos a]
/-! ### ranks, signs -/
def p_ranks (K1 : List D → DH → Res D) : MS := (mSeq (mDrop (mCallK K1 1 1 0 [0] [mVar 0] [])) (mSeq (mAsg (mBlt .sorted [mVar 0]) (gNm 1)) (mSeq (mRet (mBlt .tuple [mLc (iPlain (mVar 0)) (gNm 2) tYesM (mBin (opB .Add) (mLit (.int 1)) (mMeth "index" (mVar 1) [mVar 2])) [2]])) mNext)))
def rankOf (L : List Int) (x : Int) : Int := 1 + ((L.filter fun y => decide (y < x)).length : Nat)
def RanksOk (F : List D → DH → Res D) : Prop := ∀ (h : DH) (L : List Int), HL L → 1 ≤ L.length → L.length ≤ 12 → wpR (F [.tup (L.map D.int)] h) (fun d h' => d = .tup ((L.map (rankOf L)).map D.int) ∧ ∃ l, h' = h ++ l) fun _ _ => False
theorem ranks_ok {K1 : List D → DH → Res D} (hk : CheckOk K1) {h : DH} {L : List Int} (hl : HL L) (h0 : 1 ≤ L.length) (h1 : L.length ≤ 12) : wpR (runB (p_ranks K1) 3 [.tup (L.map D.int)] h) (fun d h' => d = .tup ((L.map (rankOf L)).map D.int) ∧ ∃ l, h' = h ++ l) fun _ _ => False := by
  simp [p_ranks]
  refine wpR_mono (hk h L hl h0 h1) fun d h2 hd => ?_
  obtain ⟨_, rfl⟩ := hd
  rw [sorted_tup]
  simp
  refine lc_seq (J := fun h' => h' = h2 ++ [.lst ((isort L).map D.int)]) (p := fun _ => true) (v := fun d => match d with | .int x => .int (rankOf L x) | d => d) rfl (by simp; omega) (fun d h' hd inv => ?_) fun h' inv => ?_
  · subst inv
    obtain ⟨x, hx, rfl⟩ := List.mem_map.mp hd
    have e : (h2 ++ [O.lst ((isort L).map D.int)])[h2.length]? = some (.lst ((isort L).map D.int)) := by simp
    simp [mth_index e, index_at e, idx_isort hl.nd hx, rankOf]
  · subst inv
    simp
    rw [List.filter_eq_self.mpr fun _ _ => rfl, List.map_map]
    rfl
end
end PyI
-- PvL3
namespace PyI
noncomputable section
open PySem PySem.Spec L2
/-! ### repr, equal values, the law's line -/
theorem mapM_ints (f : Nat) : ∀ L : List Int, (L.map U.int).mapM (toPyU (f + 1)) = some (L.map PyData.int)
  | [] => rfl
  | x :: r => by
    rw [List.map_cons, List.mapM_cons, mapM_ints f r]
    rfl
theorem toPyU_tup (f : Nat) (L : List Int) : toPyU (f + 2) (.tup (L.map .int)) = some (.tuple (L.map .int)) := by
  show ((L.map U.int).mapM (toPyU (f + 1))).map PyData.tuple = _
  rw [mapM_ints]
  rfl
theorem toPyU_lst (f : Nat) (L : List Int) : toPyU (f + 2) (.lst (L.map .int)) = some (.list (L.map .int)) := by
  show ((L.map U.int).mapM (toPyU (f + 1))).map PyData.list = _
  rw [mapM_ints]
  rfl
@[simp] theorem eqU_tup (L M : List Int) : eqU (.tup (L.map .int)) (.tup (M.map .int)) = some (decide (L = M)) := by
  unfold eqU
  rw [toPyU_tup, toPyU_tup]
  dsimp only
  rw [shaped_tup, shaped_tup, if_pos (show (true && true) = true from rfl), PyData.eqv, eqvAll_ints]
@[simp] theorem eqU_lst (L M : List Int) : eqU (.lst (L.map .int)) (.lst (M.map .int)) = some (decide (L = M)) := by
  unfold eqU
  rw [toPyU_lst, toPyU_lst]
  dsimp only
  rw [shaped_lst, shaped_lst, if_pos (show (true && true) = true from rfl), PyData.eqv, eqvAll_ints]
def Small (L : List Int) : Prop := L.length ≤ 1000 ∧ ∀ x ∈ L, x.natAbs < 1099511627776
theorem HL.small {L : List Int} (h : HL L) (h1 : L.length ≤ 12) : Small L := ⟨by omega, fun x hx => by have := h.rg x hx; omega⟩
theorem show_ints : ∀ L : List Int, (∀ x ∈ L, x.natAbs < 1099511627776) → PyData.showableAll (L.map .int) = true
  | [], _ => by rw [List.map_nil, PyData.showableAll]
  | x :: r, h => by
    rw [List.map_cons, PyData.showableAll, show_ints r fun y hy => h y (List.mem_cons_of_mem _ hy), PyData.showable]
    have := h x List.mem_cons_self
    have l : x.natAbs.log2 < 1920 := by
      by_cases h0 : x.natAbs = 0
      · rw [h0]; decide
      · have : x.natAbs.log2 < 40 := (Nat.log2_lt h0).mpr (by omega)
        omega
    simp [l]
theorem rsz_ints : ∀ L : List Int, (∀ x ∈ L, x.natAbs < 1099511627776) → rszs (L.map .int) = 43 * L.length
  | [], _ => rfl
  | x :: r, h => by
    rw [List.map_cons, rszs, rsz_ints r fun y hy => h y (List.mem_cons_of_mem _ hy), rsz, if_pos (h x List.mem_cons_self), List.length_cons]
    omega
theorem cps_ints : ∀ L : List Int, cpsOks (L.map .int) = true
  | [] => rfl
  | x :: r => by rw [List.map_cons, cpsOks, cps_ints r]; rfl
def repT (L : List Int) : Str := PyData.shown (.tuple (L.map .int))
def repL (L : List Int) : Str := PyData.shown (.list (L.map .int))
theorem reprU_tup {L : List Int} (h : Small L) : reprU (.tup (L.map .int)) = some (repT L) := by
  unfold reprU
  rw [toPyU_tup, Option.bind_some, if_pos]
  · rfl
  · rw [shaped_tup]
    have a : PyData.showable (.tuple (L.map .int)) = true := by rw [PyData.showable]; exact show_ints L h.2
    have b : cpsOk (.tuple (L.map .int)) = true := by rw [cpsOk]; exact cps_ints L
    have c : rsz (.tuple (L.map .int)) ≤ 1000000 := by rw [rsz, rsz_ints L h.2]; have := h.1; omega
    simp [a, b, c]
theorem reprU_lst {L : List Int} (h : Small L) : reprU (.lst (L.map .int)) = some (repL L) := by
  unfold reprU
  rw [toPyU_lst, Option.bind_some, if_pos]
  · rfl
  · rw [shaped_lst]
    have a : PyData.showable (.list (L.map .int)) = true := by rw [PyData.showable]; exact show_ints L h.2
    have b : cpsOk (.list (L.map .int)) = true := by rw [cpsOk]; exact cps_ints L
    have c : rsz (.list (L.map .int)) ≤ 1000000 := by rw [rsz, rsz_ints L h.2]; have := h.1; omega
    simp [a, b, c]
theorem lc_true {E : VE} {ns : List Int} : ∀ xs : List Int, (∀ x ∈ xs, E [some (.scr ns, .bor), some (.int x, .shr)] = .ok (.bl true, .shr) [some (.scr ns, .bor), some (.int x, .shr)]) →
    lcV (vgNm 1) vYes E [1] (xs.map .int) [some (.scr ns, .bor), none] = .ok ((List.replicate xs.length true).map .bl) [some (.scr ns, .bor), none]
  | [], _ => rfl
  | x :: r, h => by
    rw [List.map_cons, lc_consV]
    have e := lc_true r fun y hy => h y (List.mem_cons_of_mem _ hy)
    simp [h x List.mem_cons_self, e, List.replicate_succ]
/-- how many cells -/
def cellsN (ns : List Int) (N : Int) : Int := if 2 < (if N < (ns.length : Int) then N else (ns.length : Int)) then (if N < (ns.length : Int) then N else (ns.length : Int)) else 2
theorem cellsN_le {ns : List Int} {N : Int} (h0 : 2 ≤ N) : 2 ≤ cellsN ns N ∧ cellsN ns N ≤ N := by
  unfold cellsN
  split <;> (try split) <;> omega
/-- the law's last row -/
theorem law_row {ns : List Int} {N : Int} {E : VE} (h0 : 2 ≤ N) (h1 : N ≤ 900) (h : ∀ x : Int, 0 ≤ x → x < 1000 → E [some (.scr ns, .bor), some (.int x, .shr)] = .ok (.bl true, .shr) [some (.scr ns, .bor), some (.int x, .shr)]) :
    vBlt .all [vLc (vRange rng1U [vBlt .max [vLit (.int 2), vBlt .min [vBlt .len [vVar 0], vLit (.int N)]]]) (vgNm 1) vYes E [1]] [some (.scr ns, .bor), none] = .ok (.bl true, .shr) [some (.scr ns, .bor), none] := by
  have z := cellsN_le (ns := ns) h0
  have sm : smallI (cellsN ns N) = true := smallI_i (by omega) (by omega)
  have len := rgL_len 0 (cellsN ns N)
  have hn : (rgL 0 (cellsN ns N)).length < 1000000 := by omega
  have e := lc_true (E := E) (ns := ns) (rgL 0 (cellsN ns N)) fun x hx => h x (rgL_mem hx).1 (by have := (rgL_mem hx).2; omega)
  have ez : (if 2 < (if N < (ns.length : Int) then N else (ns.length : Int)) then (if N < (ns.length : Int) then N else (ns.length : Int)) else 2) = cellsN ns N := rfl
  simp [ez, sm, hn]
  simp at e
  rw [e]
  have ra : ∀ n : Nat, (List.replicate n (U.bl true)) = (List.replicate n true).map U.bl := fun n => by simp
  simp [ra, -List.map_replicate]
theorem for_step {g : VG} {b : VS} {x : U} {r : List U} {su su1 su2 : US} (hg : g x su = some su1) (hb : b su1 = .nx su2) : forV g b (x :: r) su = forV g b r su2 := by
  rw [for_cons, hg]
  dsimp only
  rw [hb]
/-! ### comprehensions -/
theorem lc_fm {E : VE} {T : VT} {i : Nat} {su : US} {f : U → U} {p : U → Bool} (hw : su.set i none = su) : ∀ xs : List U, (∀ x ∈ xs, T (su.set i (some (x, .shr))) = .ok (p x) (su.set i (some (x, .shr))) ∧ (p x = true → E (su.set i (some (x, .shr))) = .ok (f x, .shr) (su.set i (some (x, .shr))))) →
    lcV (vgNm i) T E [i] xs su = .ok ((xs.filter p).map f) su
  | [], _ => rfl
  | x :: r, h => by
    have e := lc_fm hw r fun y hy => h y (List.mem_cons_of_mem _ hy)
    obtain ⟨h1, h2⟩ := h x List.mem_cons_self
    rw [lc_consV]
    simp only [g_nmV, h1, oo_ok, rg_ok]
    by_cases c : p x = true
    · simp only [c, if_true, h2 c, oo_ok, rg_ok, esc_shr, wipe_consU, wipe_nilU, List.set_set, hw, e, List.filter_cons_of_pos, List.map_cons]
    · simp only [c, wipe_consU, wipe_nilU, List.set_set, hw, e, List.filter_cons_of_neg, not_false_eq_true, if_false, Bool.false_eq_true]
theorem lc_mp {E : VE} {i : Nat} {su : US} {f : U → U} (hw : su.set i none = su) (xs : List U) (h : ∀ x ∈ xs, E (su.set i (some (x, .shr))) = .ok (f x, .shr) (su.set i (some (x, .shr)))) : lcV (vgNm i) vYes E [i] xs su = .ok (xs.map f) su := by
  have := lc_fm (T := vYes) (p := fun _ => true) hw xs fun x hx => ⟨rfl, fun _ => h x hx⟩
  rw [this, List.filter_eq_self.mpr fun _ _ => rfl]
/-- over ints, yielding truths -/
theorem lc_ib {E : VE} {i : Nat} {su : US} {f : Int → Bool} (hw : su.set i none = su) (xs : List Int) (h : ∀ x ∈ xs, E (su.set i (some (.int x, .shr))) = .ok (.bl (f x), .shr) (su.set i (some (.int x, .shr)))) : lcV (vgNm i) vYes E [i] (xs.map .int) su = .ok ((xs.map f).map .bl) su := by
  rw [lc_mp (f := fun u => match u with | .int x => .bl (f x) | u => u) hw, List.map_map, List.map_map]
  · rfl
  · intro u hu
    obtain ⟨x, hx, rfl⟩ := List.mem_map.mp hu
    exact h x hx
theorem lc_ii {E : VE} {i : Nat} {su : US} {f : Int → Int} (hw : su.set i none = su) (xs : List Int) (h : ∀ x ∈ xs, E (su.set i (some (.int x, .shr))) = .ok (.int (f x), .shr) (su.set i (some (.int x, .shr)))) : lcV (vgNm i) vYes E [i] (xs.map .int) su = .ok ((xs.map f).map .int) su := by
  rw [lc_mp (f := fun u => match u with | .int x => .int (f x) | u => u) hw, List.map_map, List.map_map]
  · rfl
  · intro u hu
    obtain ⟨x, hx, rfl⟩ := List.mem_map.mp hu
    exact h x hx
theorem all_map {α : Type} (f : α → Bool) (l : List α) : (l.map f).all id = l.all f := by induction l <;> simp_all
theorem atI_last {α : Type} (xs : List α) : atI xs (-1) = xs.getLast? := by
  unfold atI ixN
  rw [if_neg (by omega)]
  cases xs with
  | nil => simp
  | cons x r =>
    rw [if_pos (by simp; omega), List.getLast?_eq_getElem?]
    show (x :: r)[(-1 + ((x :: r).length : Int)).toNat]? = _
    congr 1
    simp
    omega
/-! ### the rows behind a pass -/
theorem passG_last (t : Bool) : ∀ (r : List Int) (s : Int), (passG t s r).getLast? = (s :: sitG t s r).getLast?
  | [], s => rfl
  | p :: r, s => by
    have ne : ∀ (r : List Int) (s : Int), passG t s r ≠ [] := fun r s => by cases r <;> simp [passG] <;> split <;> simp
    unfold passG sitG
    split
    · rw [List.getLast?_cons_of_ne_nil (ne r p), passG_last t r p]; simp
    · rw [List.getLast?_cons_of_ne_nil (ne r s), passG_last t r s]
theorem pass_sit_last (t : Bool) (L : List Int) : (passL t L).getLast? = (sitL t L).getLast? := by
  cases L with
  | nil => rfl
  | cons s r => exact passG_last t r s
theorem passL_len (t : Bool) : ∀ L : List Int, (passL t L).length = L.length := by
  have g : ∀ (r : List Int) (s : Int), (passG t s r).length = r.length + 1 := by
    intro r
    induction r with
    | nil => intro s; rfl
    | cons p r ih => intro s; unfold passG; split <;> simp [ih]
  intro L
  cases L with
  | nil => rfl
  | cons s r => exact g r s
theorem passL_perm (t : Bool) : ∀ L : List Int, (passL t L).Perm L := by
  have g : ∀ (r : List Int) (s : Int), (passG t s r).Perm (s :: r) := by
    intro r
    induction r with
    | nil => intro s; exact List.Perm.refl _
    | cons p r ih =>
      intro s; unfold passG; split
      · exact (ih p).cons s
      · exact ((ih s).cons p).trans (List.Perm.swap s p r)
  intro L
  cases L with
  | nil => exact List.Perm.refl _
  | cons s r => exact g r s
theorem law_row_g {su : US} {i : Nat} {ns : List Int} {N : Int} {E : VE} (h0 : 2 ≤ N) (h1 : N ≤ 900) (hs : su[0]? = some (some (.scr ns, .bor))) (hw : su.set i none = su) (hi : su[i]? = some none)
    (h : ∀ x : Int, 0 ≤ x → x < 1000 → E (su.set i (some (.int x, .shr))) = .ok (.bl true, .shr) (su.set i (some (.int x, .shr)))) :
    vBlt .all [vLc (vRange rng1U [vBlt .max [vLit (.int 2), vBlt .min [vBlt .len [vVar 0], vLit (.int N)]]]) (vgNm i) vYes E [i]] su = .ok (.bl true, .shr) su := by
  have z := cellsN_le (ns := ns) h0
  have sm : smallI (cellsN ns N) = true := smallI_i (by omega) (by omega)
  have len := rgL_len 0 (cellsN ns N)
  have hn : (rgL 0 (cellsN ns N)).length < 1000000 := by omega
  have e := lc_ib (E := E) (f := fun _ => true) hw (rgL 0 (cellsN ns N)) fun x hx => h x (rgL_mem hx).1 (by have := (rgL_mem hx).2; omega)
  have ez : (if 2 < (if N < (ns.length : Int) then N else (ns.length : Int)) then (if N < (ns.length : Int) then N else (ns.length : Int)) else 2) = cellsN ns N := rfl
  have gd : su.set i none = su := hw
  simp [hs, ez, sm, hn, hw, hi]
  rw [e]
  simp [gd, hi, -List.map_map, -List.map_const]
end
end PyI
-- PvL4
namespace PyI
noncomputable section
open PySem PySem.Spec L2
def b_law_word (G_law_draw : List D → DH → Res D) : MS := (mSeq (mPar [2, 3, 4] [mCallK G_law_draw 2 2 0 [0, 1] [mVar 0, mBin (opB .Add) (mVar 1) (mLit (.int 1))] [], mBin (opB .Add) (mLit (.int 1)) (mCallK G_law_draw 2 2 0 [0, 1] [mVar 0, mLit (.int 3)] []), mLit (.str "")]) (mSeq (mWhile (mB (mBin (opC .Lt) (mBlt .len [mVar 4]) (mVar 2))) (mSeq (mAsg (mBin (opB .Add) (mVar 4) (mBin (opB .Mult) (mBin opI (mLit (.str "ST")) (mCallK G_law_draw 2 2 0 [0, 1] [mVar 0, mLit (.int 2)] [])) (mBin (opB .Add) (mLit (.int 1)) (mCallK G_law_draw 2 2 0 [0, 1] [mVar 0, mVar 3] [])))) (gNm 4)) mNext)) (mSeq (mRet (mSl (mVar 4) oNone (mPart (mVar 2)))) mNext)))
def vt_law_word_1 : VT := vB (vBin (uC .Lt) (vBlt .len [vVar 4]) (vVar 2))
def vl_law_word_1 : VS := vSeq (vAsg (vBin (uB .Add) (vVar 4) (vBin (uB .Mult) (vBin uI (vLit (.str "ST")) (vCall1 V_law_draw 0 [vLit (.int 2)])) (vBin (uB .Add) (vLit (.int 1)) (vCall1 V_law_draw 0 [vVar 3])))) 4) vNext
def vb_law_word : VS := vSeq (vPar [2, 3, 4] [vCall1 V_law_draw 0 [vBin (uB .Add) (vVar 1) (vLit (.int 1))], vBin (uB .Add) (vLit (.int 1)) (vCall1 V_law_draw 0 [vLit (.int 3)]), vLit (.str "")]) (vSeq (vWhile vt_law_word_1 vl_law_word_1) (vSeq (vRet (vSl (vVar 4) vNone (vPart (vVar 2)))) vNext))
def V_law_word : VF := runV1 vb_law_word 2 5
theorem sim_law_word {G_law_draw : List D → DH → Res D} (f_law_draw : FSim1 G_law_draw V_law_draw) : SimS (b_law_word G_law_draw) vb_law_word := sims_seq (sims_par (.cons (sim_call1 f_law_draw rfl (.cons (sim_bin (osim_B _) sim_var (sim_lit fun _ _ => .int _)) .nil) rfl rfl) (.cons (sim_bin (osim_B _) (sim_lit fun _ _ => .int _) (sim_call1 f_law_draw rfl (.cons (sim_lit fun _ _ => .int _) .nil) rfl rfl)) (.cons (sim_lit fun _ _ => .str _) .nil)))) (sims_seq (sims_while (sim_B (sim_bin (osim_C _) (sim_blt (.cons sim_var .nil)) sim_var)) (sims_seq (sims_asg (sim_bin (osim_B _) sim_var (sim_bin (osim_B _) (sim_bin osim_I (sim_lit fun _ _ => .str _) (sim_call1 f_law_draw rfl (.cons (sim_lit fun _ _ => .int _) .nil) rfl rfl)) (sim_bin (osim_B _) (sim_lit fun _ _ => .int _) (sim_call1 f_law_draw rfl (.cons sim_var .nil) rfl rfl))))) sims_next)) (sims_seq (sims_ret (sim_sl sim_var sim_none (sim_part sim_var))) sims_next))
def b_check_word : MS := (mSeq (mIfS (mOrT [mNotT (mTru (mBlt .isinst [mVar 0, mLit (.ty "str")])), mB (mBin (opC .Gt) (mBlt .len [mVar 0]) (mLit (.int 400)))]) (mSeq mStNo mNext) mNext) (mSeq (mFor (iEnumM (mVar 0)) (gTp [gNm 1, gNm 2]) (mSeq (mIfS (mB (mBin (opC .NotIn) (mVar 2) (mLit (.tup [.str "S", .str "T"])))) (mSeq mStNo mNext) mNext) mNext)) mNext))
def vl_check_word_1 : VS := vSeq (vIfS (vB (vBin (uC .NotIn) (vVar 2) (vLit (.tup [.str "S", .str "T"])))) (vSeq vStNo vNext) vNext) vNext
def vb_check_word : VS := vSeq (vIfS (vOrT [vNotT (vTru (vBlt .isinst [vVar 0, vLit (.ty "str")])), vB (vBin (uC .Gt) (vBlt .len [vVar 0]) (vLit (.int 400)))]) (vSeq vStNo vNext) vNext) (vSeq (vFor (vEnum (vVar 0)) (vgTp [vgNm 1, vgNm 2]) vl_check_word_1) vNext)
def V_check_word : VF := runV vb_check_word 1 3
theorem sim_check_word : SimS (b_check_word) vb_check_word := sims_seq (sims_if (sim_orT (.cons (sim_notT (sim_tru (sim_blt (.cons sim_var (.cons (sim_lit fun _ _ => .ty _) .nil))))) (.cons (sim_B (sim_bin (osim_C _) (sim_blt (.cons sim_var .nil)) (sim_lit fun _ _ => .int _))) .nil))) (sims_seq sims_no sims_next) sims_next) (sims_seq (sims_for (simi_enum sim_var) (simg_tp (.cons simg_nm (.cons simg_nm .nil))) (sims_seq (sims_if (sim_B (sim_bin (osim_C _) sim_var (sim_lit fun _ _ => .tup (.cons (.str _) (.cons (.str _) .nil))))) (sims_seq sims_no sims_next) sims_next) sims_next)) sims_next)
def b_after_letters (G_at_chair : List D → DH → Res D) : MS := (mSeq (mFor (iPlain (mVar 1)) (gNm 2) (mSeq (mAsg (mBin opI (mCallK G_at_chair 2 2 0 [0, 1] [mVar 0, mVar 2] []) (mLit (.int 0))) (gNm 0)) mNext)) (mSeq (mRet (mVar 0)) mNext))
def vl_after_letters_1 : VS := vSeq (vAsg (vBin uI (vCall V_at_chair [0, 1] [vVar 0, vVar 2]) (vLit (.int 0))) 0) vNext
def vb_after_letters : VS := vSeq (vFor (vPlain (vVar 1)) (vgNm 2) vl_after_letters_1) (vSeq (vRet (vVar 0)) vNext)
def V_after_letters : VF := runV vb_after_letters 2 3
theorem sim_after_letters {G_at_chair : List D → DH → Res D} (f_at_chair : FSim G_at_chair V_at_chair) : SimS (b_after_letters G_at_chair) vb_after_letters := sims_seq (sims_for (simi_plain sim_var) simg_nm (sims_seq (sims_asg (sim_bin osim_I (sim_call f_at_chair rfl (.cons sim_var (.cons sim_var .nil)) rfl rfl) (sim_lit fun _ _ => .int _))) sims_next)) (sims_seq (sims_ret sim_var) sims_next)
def b_after (G_check_row G_check_word G_after_letters : List D → DH → Res D) : MS := (mSeq (mDrop (mCallK G_check_row 1 1 0 [0] [mVar 0] [])) (mSeq (mDrop (mCallK G_check_word 1 1 0 [0] [mVar 1] [])) (mSeq (mRet (mCallK G_after_letters 2 2 0 [0, 1] [mVar 0, mVar 1] [])) mNext)))
def vb_after : VS := vSeq (vDrop (vCall V_check_row [0] [vVar 0])) (vSeq (vDrop (vCall V_check_word [0] [vVar 1])) (vSeq (vRet (vCall V_after_letters [0, 1] [vVar 0, vVar 1])) vNext))
def V_after : VF := runV vb_after 2 2
theorem sim_after {G_check_row G_check_word G_after_letters : List D → DH → Res D} (f_check_row : FSim G_check_row V_check_row) (f_check_word : FSim G_check_word V_check_word) (f_after_letters : FSim G_after_letters V_after_letters) : SimS (b_after G_check_row G_check_word G_after_letters) vb_after := sims_seq (sims_drop (sim_call f_check_row rfl (.cons sim_var .nil) rfl rfl)) (sims_seq (sims_drop (sim_call f_check_word rfl (.cons sim_var .nil) rfl rfl)) (sims_seq (sims_ret (sim_call f_after_letters rfl (.cons sim_var (.cons sim_var .nil)) rfl rfl)) sims_next))
/-! ### words: lists of kinds -/
def cp (t : Bool) : Nat := if t then 84 else 83
def wd (w : List Bool) : Str := ⟨(w.map cp).toArray⟩
theorem kd_cp (t : Bool) : kd t = ⟨#[cp t]⟩ := by cases t <;> decide
theorem wd_nil : wd [] = "" := by decide
theorem wd_one (t : Bool) : wd [t] = kd t := by rw [kd_cp]; rfl
@[simp] theorem wd_len (w : List Bool) : (wd w).length = w.length := by
  show ((w.map cp).toArray).size = _
  simp
@[simp] theorem wd_app (a b : List Bool) : wd a ++ wd b = wd (a ++ b) := by
  show (⟨(wd a).cps ++ (wd b).cps⟩ : Str) = _
  unfold wd
  simp
theorem wd_inj {a b : List Bool} (h : wd a = wd b) : a = b := by
  have e : a.map cp = b.map cp := by
    have := congrArg (fun s : Str => s.cps.toList) h
    simpa [wd] using this
  have c : ∀ x y : Bool, cp x = cp y → x = y := by decide
  induction a generalizing b with
  | nil => cases b with
    | nil => rfl
    | cons y b => simp at e
  | cons x a ih =>
    cases b with
    | nil => simp at e
    | cons y b =>
      simp at e
      have := ih (b := b) (by unfold wd; rw [e.2]) e.2
      rw [c x y e.1, this]
@[simp] theorem wd_eq {a b : List Bool} : (wd a = wd b) = (a = b) := propext ⟨wd_inj, fun h => by rw [h]⟩
theorem cut_map {α β : Type} (f : α → β) (l : List α) (lo hi : Option Int) : cutL (l.map f) lo hi = (cutL l lo hi).map f := by
  unfold cutL
  rw [List.length_map, List.map_take, List.map_drop]
@[simp] theorem wd_cut (w : List Bool) (lo hi : Option Int) : (⟨(cutL (wd w).cps.toList lo hi).toArray⟩ : Str) = wd (cutL w lo hi) := by
  unfold wd
  rw [List.toList_toArray, cut_map]
theorem wd_mul (w : List Bool) (k : Int) : strMul (wd w) k = wd (List.replicate k.toNat w).flatten := by
  unfold strMul wd
  congr 1
  rw [List.map_flatten, List.map_replicate]
theorem wd_chars (w : List Bool) : charsU (wd w) = w.map fun t => .str (kd t) := by
  unfold charsU wd
  rw [List.toList_toArray, List.map_map]
  refine List.map_congr_left fun t _ => ?_
  rw [kd_cp]
  rfl
theorem wd_at {w : List Bool} {i : Int} {t : Bool} (h : atI w i = some t) : (atI (wd w).cps.toList i).map (fun c => U.str ⟨#[c]⟩) = some (.str (kd t)) := by
  unfold atI at h ⊢
  obtain ⟨j, e1, e2⟩ := bind_inv h
  have hl : (wd w).cps.toList.length = w.length := by unfold wd; simp
  rw [hl, e1, Option.bind_some]
  have : (wd w).cps.toList = w.map cp := by unfold wd; simp
  rw [this, List.getElem?_map, e2, kd_cp]
  rfl
theorem ST_eq : ("ST" : Str) = wd [false, true] := by decide
theorem two_at {r : Int} (h0 : 0 ≤ r) (h1 : r < 2) : ∃ t, atI [false, true] r = some t := by
  have : r = 0 ∨ r = 1 := by omega
  rcases this with rfl | rfl
  · exact ⟨false, rfl⟩
  · exact ⟨true, rfl⟩
/-- one letter drawn -/
theorem letter_V {r : Int} (h0 : 0 ≤ r) (h1 : r < 2) : ∃ t, uI (.str "ST") (.int r) = .val (.str (kd t)) := by
  obtain ⟨t, ht⟩ := two_at h0 h1
  refine ⟨t, ?_⟩
  rw [ST_eq, u_ixS, wd_len, if_pos (by decide), wd_at ht]
  rfl
theorem whV_end {t : VT} {b : VS} {m : Nat} {su su1 : US} (h : t su = .ok false su1) : whV t b (m + 1) su = .nx su1 := by
  show bindV (t su) _ = _
  rw [h]; rfl
theorem whV_step {t : VT} {b : VS} {m : Nat} {su su1 su2 : US} (h : t su = .ok true su1) (hb : b su1 = .nx su2) : whV t b (m + 1) su = whV t b m su2 := by
  show bindV (t su) _ = _
  rw [h, bv_ok, if_pos rfl, hb]
theorem word_loop (most size st : Int) (s1 : 0 ≤ size) (s2 : size ≤ 100000) (t1 : 1 ≤ st) (t2 : st ≤ 3) : ∀ (m : Nat) (f : List Bool) (p : List U), PoolU p → size - f.length < m ∧ 0 < m → f.length ≤ size + 3 → ∃ (f' : List Bool) (p' : List U), PoolU p' ∧ size ≤ f'.length ∧ f'.length ≤ size + 3 ∧
    whV vt_law_word_1 vl_law_word_1 m [some (.lst p, .io), some (.int most, .bor), some (.int size, .shr), some (.int st, .shr), some (.str (wd f), .shr)] = .nx [some (.lst p', .io), some (.int most, .bor), some (.int size, .shr), some (.int st, .shr), some (.str (wd f'), .shr)]
  | 0, f, p, hp, hm, hf => by
    omega
  | m + 1, f, p, hp, hm, hf => by
    have lf : f.length ≤ 16777216 := by omega
    by_cases c : (f.length : Int) < size
    · obtain ⟨r, p1, hp1, r0, r1, e1⟩ := draw_V (k := 2) hp (by decide) (by decide)
      obtain ⟨n, p2, hp2, n0, n1, e2⟩ := draw_V (k := st) hp1 (by omega) (by omega)
      obtain ⟨t, et⟩ := letter_V r0 r1
      have hlen : ((List.replicate (1 + n).toNat [t]).flatten).length = (1 + n).toNat := by simp
      obtain ⟨f', p', hp', g1, g2, e⟩ := word_loop most size st s1 s2 t1 t2 m (f ++ (List.replicate (1 + n).toNat [t]).flatten) p2 hp2 (by rw [List.length_append, hlen]; omega) (by rw [List.length_append, hlen]; omega)
      refine ⟨f', p', hp', g1, g2, ?_⟩
      refine (whV_step (su1 := [some (.lst p, .io), some (.int most, .bor), some (.int size, .shr), some (.int st, .shr), some (.str (wd f), .shr)]) ?_ ?_).trans e
      · simp [vt_law_word_1, lf, c]
      · have b1 : (kd t).length ≤ 1000 := by cases t <;> decide
        have b2 : -1000 ≤ 1 + n ∧ 1 + n ≤ 1000 := by omega
        have b3 : f.length + (1 + n).toNat ≤ 16777216 := by omega
        have m1 := wd_mul [t] (1 + n)
        rw [wd_one] at m1
        simp [vl_law_word_1, e1, e2, et, b1, b2, m1, b3]
    · exact ⟨f, p, hp, by omega, hf, whV_end (by simp [vt_law_word_1, lf, c])⟩
theorem law_word_V {p : List U} {most : Int} (hp : PoolU p) (h0 : 0 ≤ most) (h1 : most ≤ 100000) : ∃ (w : List Bool) (p' : List U), PoolU p' ∧ (w.length : Int) ≤ most ∧ V_law_word [.lst p, .int most] = .ok (.str (wd w)) false (.lst p') := by
  obtain ⟨size, p1, hp1, r0, r1, e1⟩ := draw_V (k := most + 1) hp (by omega) (by omega)
  obtain ⟨st, p2, hp2, n0, n1, e2⟩ := draw_V (k := 3) hp1 (by decide) (by decide)
  obtain ⟨f', p', hp', g1, g2, e⟩ := word_loop most size (1 + st) (by omega) (by omega) (by omega) (by omega) fuel [] p2 hp2 (by rw [fuel_eq]; simp; omega) (by simp; omega)
  have lf : f'.length ≤ 16777216 := by omega
  have cc : cutL f' none (some size) = f'.take size.toNat := by
    have := cut_to f' size.toNat
    rwa [show ((size.toNat : Nat) : Int) = size by omega] at this
  refine ⟨f'.take size.toNat, p', hp', by rw [List.length_take]; omega, ?_⟩
  rw [wd_nil] at e
  simp [V_law_word, runV1, vb_law_word, e1, e2, vWhile, e, lf, cc]
theorem check_word_loop (s0 : Option (U × Fl)) : ∀ (w : List Bool) (k : Nat) (v x : Option (U × Fl)), ∃ v' x', forV (vgTp [vgNm 1, vgNm 2]) vl_check_word_1 (enumU k (w.map fun t => U.str (kd t))) [s0, v, x] = .nx [s0, v', x']
  | [], k, v, x => ⟨v, x, rfl⟩
  | t :: r, k, v, x => by
    obtain ⟨v', x', e⟩ := check_word_loop s0 r (k + 1) (some (.int k, .shr)) (some (.str (kd t), .shr))
    exact ⟨v', x', (for_step (su1 := [s0, some (.int k, .shr), some (.str (kd t), .shr)]) rfl (by simp [vl_check_word_1, inU_kind])).trans e⟩
theorem check_word_V {w : List Bool} (h : w.length ≤ 400) : V_check_word [.str (wd w)] = .ok .non false .non := by
  obtain ⟨v', x', e⟩ := check_word_loop (some (.str (wd w), .bor)) w 0 none none
  have h1 : w.length ≤ 16777216 := by omega
  have h2 : ¬ (400 : Int) < w.length := by omega
  have h3 : w.length < 1000000 := by omega
  simp [V_check_word, runV, vb_check_word, h1, h2, wd_chars, enumU_length, h3, e]
def afterL (w : List Bool) (L : List Int) : List Int := w.foldl (fun L t => passL t L) L
@[simp] theorem afterL_nil (L : List Int) : afterL [] L = L := rfl
@[simp] theorem afterL_cons (t : Bool) (w : List Bool) (L : List Int) : afterL (t :: w) L = afterL w (passL t L) := rfl
theorem afterL_app (a b : List Bool) (L : List Int) : afterL (a ++ b) L = afterL b (afterL a L) := by unfold afterL; rw [List.foldl_append]
theorem afterL_len (w : List Bool) : ∀ L : List Int, (afterL w L).length = L.length := by
  induction w with
  | nil => intro L; rfl
  | cons t w ih => intro L; rw [afterL_cons, ih, passL_len]
theorem afterL_perm (w : List Bool) : ∀ L : List Int, (afterL w L).Perm L := by
  induction w with
  | nil => intro L; exact List.Perm.refl _
  | cons t w ih => intro L; rw [afterL_cons]; exact (ih _).trans (passL_perm t L)
theorem after_loop (s1 : Option (U × Fl)) : ∀ (w : List Bool) (L : List Int) (f : Fl) (x : Option (U × Fl)), f = .bor ∨ f = .shr → 1 ≤ L.length → L.length ≤ 1000 → ∃ (f' : Fl) (x' : Option (U × Fl)), (f' = .bor ∨ f' = .shr) ∧ forV (vgNm 2) vl_after_letters_1 (w.map fun t => U.str (kd t)) [some (.tup (L.map .int), f), s1, x] = .nx [some (.tup ((afterL w L).map .int), f'), s1, x']
  | [], L, f, x, hf, _, _ => ⟨f, x, hf, rfl⟩
  | t :: w, L, f, x, hf, h0, h1 => by
    obtain ⟨f', x', hf', e⟩ := after_loop s1 w (passL t L) .shr (some (.str (kd t), .shr)) (.inr rfl) (by rw [passL_len]; exact h0) (by rw [passL_len]; exact h1)
    refine ⟨f', x', hf', (for_step (su1 := [some (.tup (L.map .int), f), s1, some (.str (kd t), .shr)]) rfl ?_).trans e⟩
    have a := at_chair_V t h0 h1
    rcases hf with rfl | rfl <;> simp [vl_after_letters_1, a, atu0]
theorem after_letters_V (w : List Bool) {L : List Int} (hw : w.length < 1000000) (h0 : 1 ≤ L.length) (h1 : L.length ≤ 1000) : V_after_letters [.tup (L.map .int), .str (wd w)] = .ok (.tup ((afterL w L).map .int)) false .non := by
  obtain ⟨f', x', hf', e⟩ := after_loop (some (.str (wd w), .bor)) w L .bor none (.inl rfl) h0 h1
  rcases hf' with rfl | rfl <;> simp [V_after_letters, runV, vb_after_letters, wd_chars, hw, e]
theorem after_V {w : List Bool} {L : List Int} (hl : HL L) (hw : w.length ≤ 400) (h0 : 1 ≤ L.length) (h1 : L.length ≤ 12) : V_after [.tup (L.map .int), .str (wd w)] = .ok (.tup ((afterL w L).map .int)) false .non := by
  simp [V_after, runV, vb_after, check_row_V hl h0 h1, check_word_V hw, after_letters_V w (by omega) h0 (by omega)]
theorem HL.after {L : List Int} (h : HL L) (w : List Bool) : HL (afterL w L) := h.perm (afterL_perm w L)
theorem HL.pass {L : List Int} (h : HL L) (t : Bool) : HL (passL t L) := h.perm (passL_perm t L)
theorem join_kd (w : List Bool) : Txt.join "" (w.map kd) = wd w := by
  show Builtin.Str.glued "" (w.map kd) = wd w
  rw [PySem.StrLaws.glued_eq_join]
  have e0 : ∀ x : Str, ("" : Str) ++ x = x := fun x => by
    show (⟨("" : Str).cps ++ x.cps⟩ : Str) = x
    have : ("" : Str).cps = #[] := by decide
    rw [this, Array.empty_append]
  induction w with
  | nil => exact wd_nil.symm
  | cons t r ih =>
    cases r with
    | nil => exact (wd_one t).symm
    | cons t2 r =>
      show kd t ++ "" ++ Str.join "" ((t2 :: r).map kd) = _
      rw [ih, ← wd_one t]
      have : ∀ x : Str, x ++ "" = x := fun x => by
        show (⟨x.cps ++ ("" : Str).cps⟩ : Str) = x
        have : ("" : Str).cps = #[] := by decide
        rw [this, Array.append_empty]
      rw [this, wd_app]
      rfl
theorem kd_sum (w : List Bool) : ((w.map kd).map (·.length)).sum = w.length := by
  induction w with
  | nil => rfl
  | cons t r ih =>
    rw [List.map_cons, List.map_cons, List.sum_cons, ih, List.length_cons]
    have : (kd t).length = 1 := by cases t <;> decide
    omega
theorem strs_kd (w : List Bool) : strsU (w.map fun t => U.str (kd t)) = some (w.map kd) := by
  have := strs_map (w.map kd)
  rw [List.map_map] at this
  exact this
theorem join_V {w : List Bool} (h : w.length ≤ 100000) : mthU .join (.str "") [.lst (w.map fun t => U.str (kd t))] = .val (.str (wd w)) := by
  rw [m_join, l_lst, Option.bind_some, strs_kd]
  dsimp only
  rw [kd_sum, if_pos, join_kd]
  have : Str.length "" = 0 := by decide
  rw [this]
  omega
end
end PyI
-- PvM
namespace PyI
noncomputable section
open PySem PySem.Spec L2
/-! ### what words leave: the kept ones, and behind them the extremes -/
/-- the tallest (t), the shortest -/
def ext (t : Bool) : List Int → Int
  | [] => 0
  | [x] => x
  | x :: r => if decide (x < ext t r) = t then ext t r else x
theorem ext_cons (t : Bool) (x y : Int) (r : List Int) : ext t (x :: y :: r) = if decide (x < ext t (y :: r)) = t then ext t (y :: r) else x := rfl
theorem ext_mem (t : Bool) : ∀ {L : List Int}, L ≠ [] → ext t L ∈ L
  | [x], _ => by simp [ext]
  | x :: y :: r, _ => by
    rw [ext_cons]
    split
    · exact List.mem_cons_of_mem _ (ext_mem t (by simp))
    · exact List.mem_cons_self
/-- at least as far -/
def le' (t : Bool) (a b : Int) : Prop := if t then a ≤ b else b ≤ a
theorem ext_le (t : Bool) : ∀ {L : List Int} {x : Int}, x ∈ L → le' t x (ext t L)
  | [y], x, h => by
    simp at h; subst h
    unfold le' ext; split <;> exact Int.le_refl _
  | y :: z :: r, x, h => by
    have ih := fun {x} (h : x ∈ z :: r) => ext_le t (L := z :: r) h
    rw [ext_cons]
    rcases List.mem_cons.mp h with rfl | h
    · split
      · rename_i c; unfold le'; cases t <;> simp at c ⊢ <;> omega
      · unfold le'; cases t <;> simp
    · have := ih h
      split
      · exact this
      · rename_i c
        unfold le' at this ⊢
        cases t <;> simp at c this ⊢ <;> omega
theorem ext_unique {t : Bool} {L : List Int} {x : Int} (h : x ∈ L) (hx : ∀ y ∈ L, le' t y x) : ext t L = x := by
  have a := ext_le t h
  have b := hx _ (ext_mem t (by intro z; subst z; cases h))
  unfold le' at a b
  cases t <;> simp at a b <;> omega
theorem ext_perm {t : Bool} {L M : List Int} (p : L.Perm M) (h : L ≠ []) : ext t L = ext t M := by
  refine (ext_unique (p.mem_iff.mp (ext_mem t h)) fun y hy => ext_le t (p.mem_iff.mpr hy)).symm
/-- the chair: those who leave, who sits last -/
def em (t : Bool) : Int → List Int → List Int
  | _, [] => []
  | s, p :: r => if decide (s < p) = t then s :: em t p r else p :: em t s r
def fin' (t : Bool) : Int → List Int → Int
  | s, [] => s
  | s, p :: r => if decide (s < p) = t then fin' t p r else fin' t s r
theorem em_cons (t : Bool) (s p : Int) (r : List Int) : em t s (p :: r) = if decide (s < p) = t then s :: em t p r else p :: em t s r := rfl
theorem fin_cons (t : Bool) (s p : Int) (r : List Int) : fin' t s (p :: r) = if decide (s < p) = t then fin' t p r else fin' t s r := rfl
theorem pass_em (t : Bool) : ∀ (r : List Int) (s : Int), passG t s r = em t s r ++ [fin' t s r]
  | [], s => rfl
  | p :: r, s => by
    unfold passG em fin'
    split
    · rw [pass_em t r p]; rfl
    · rw [pass_em t r s]; rfl
theorem em_app (t : Bool) : ∀ (a b : List Int) (s : Int), em t s (a ++ b) = em t s a ++ em t (fin' t s a) b ∧ fin' t s (a ++ b) = fin' t (fin' t s a) b
  | [], b, s => ⟨rfl, rfl⟩
  | p :: a, b, s => by
    rw [List.cons_append, em_cons, em_cons, fin_cons, fin_cons]
    split
    · have := em_app t a b p
      exact ⟨by rw [this.1]; rfl, this.2⟩
    · have := em_app t a b s
      exact ⟨by rw [this.1]; rfl, this.2⟩
theorem em_len (t : Bool) : ∀ (r : List Int) (s : Int), (em t s r).length = r.length
  | [], _ => rfl
  | p :: r, s => by unfold em; split <;> simp [em_len t r]
theorem fin_ext (t : Bool) : ∀ (r : List Int) (s : Int), fin' t s r = ext t (s :: r)
  | [], s => rfl
  | p :: r, s => by
    have hx : ∀ x, x ∈ s :: p :: r → le' t x (fin' t s (p :: r)) := by
      intro x hx
      unfold fin'
      split
      · rename_i c
        rw [fin_ext t r p]
        have a := ext_le t (L := p :: r) (x := p) (by simp)
        rcases List.mem_cons.mp hx with rfl | hx
        · unfold le' at a ⊢; cases t <;> simp at c a ⊢ <;> omega
        · exact ext_le t hx
      · rename_i c
        rw [fin_ext t r s]
        have a := ext_le t (L := s :: r) (x := s) (by simp)
        rcases List.mem_cons.mp hx with rfl | hx
        · exact a
        · rcases List.mem_cons.mp hx with rfl | hx
          · unfold le' at a ⊢; cases t <;> simp at c a ⊢ <;> omega
          · exact ext_le t (List.mem_cons_of_mem _ hx)
    refine (ext_unique ?_ hx).symm
    unfold fin'
    split
    · rw [fin_ext t r p]; exact List.mem_cons_of_mem _ (ext_mem t (by simp))
    · rw [fin_ext t r s]
      rcases List.mem_cons.mp (ext_mem t (L := s :: r) (by simp)) with h | h
      · rw [h]; simp
      · exact List.mem_cons_of_mem _ (List.mem_cons_of_mem _ h)
/-- the last ones by a word read from its end, who remains -/
def tailR : List Bool → List Int → List Int
  | [], _ => []
  | t :: w, P => tailR w (P.erase (ext t P)) ++ [ext t P]
def remR : List Bool → List Int → List Int
  | [], P => P
  | t :: w, P => remR w (P.erase (ext t P))
theorem tailR_len : ∀ (w : List Bool) (P : List Int), (tailR w P).length = w.length
  | [], _ => rfl
  | t :: w, P => by unfold tailR; simp [tailR_len w]
theorem ne_of_len {P : List Int} (h : 0 < P.length) : P ≠ [] := by intro z; subst z; simp at h
theorem erase_len {P : List Int} {t : Bool} (h : 0 < P.length) : (P.erase (ext t P)).length = P.length - 1 := List.length_erase_of_mem (ext_mem t (ne_of_len h))
theorem rem_tail_perm : ∀ (w : List Bool) (P : List Int), w.length ≤ P.length → (remR w P ++ tailR w P).Perm P
  | [], P, _ => by unfold remR tailR; simp
  | t :: w, P, h => by
    simp only [List.length_cons] at h
    have ih := rem_tail_perm w (P.erase (ext t P)) (by rw [erase_len (by omega)]; omega)
    unfold remR tailR
    rw [← List.append_assoc]
    refine (ih.append_right _).trans ?_
    refine (List.perm_append_singleton _ _).trans ?_
    exact (List.perm_cons_erase (ext_mem t (ne_of_len (by omega)))).symm
theorem tail_perm : ∀ (w : List Bool) {P Q : List Int}, P.Perm Q → w.length ≤ P.length → tailR w P = tailR w Q
  | [], _, _, _, _ => rfl
  | t :: w, P, Q, p, h => by
    simp only [List.length_cons] at h
    have e := ext_perm (t := t) p (ne_of_len (by omega))
    unfold tailR
    rw [← e, tail_perm w (p.erase _) (by rw [erase_len (by omega)]; omega)]
theorem ext_two {t : Bool} {P : List Int} (nd : P.Nodup) (h : 2 ≤ P.length) : ext t P ≠ ext (!t) P := by
  intro e
  match P, nd, h with
  | a :: b :: r, nd, _ =>
    have ha1 := ext_le t (L := a :: b :: r) (x := a) (by simp)
    have ha2 := ext_le (!t) (L := a :: b :: r) (x := a) (by simp)
    have hb1 := ext_le t (L := a :: b :: r) (x := b) (by simp)
    have hb2 := ext_le (!t) (L := a :: b :: r) (x := b) (by simp)
    rw [← e] at ha2 hb2
    have : a ≠ b := by intro z; subst z; simp at nd
    unfold le' at ha1 ha2 hb1 hb2
    cases t <;> simp at ha1 ha2 hb1 hb2 <;> omega
theorem ext_erase {t : Bool} {P : List Int} {x : Int} (nd : P.Nodup) (hx : x ≠ ext t P) (h : P ≠ []) : ext t (P.erase x) = ext t P := by
  refine ext_unique ((nd.mem_erase_iff).mpr ⟨Ne.symm hx, ext_mem t h⟩) fun y hy => ext_le t (List.mem_of_mem_erase hy)
/-- the chair on the last ones -/
theorem tail_chair (t : Bool) : ∀ (w : List Bool) (P : List Int), P.Nodup → w.length < P.length → em t (ext t (remR w P)) (tailR w P) = tailR w (P.erase (ext t P)) ∧ fin' t (ext t (remR w P)) (tailR w P) = ext t P
  | [], P, _, _ => ⟨rfl, rfl⟩
  | u :: w, P, nd, h => by
    simp only [List.length_cons] at h
    have hP := ne_of_len (P := P) (by omega)
    have lq := erase_len (t := u) (P := P) (by omega)
    obtain ⟨i1, i2⟩ := tail_chair t w (P.erase (ext u P)) (nd.erase _) (by omega)
    have hQ := ne_of_len (P := P.erase (ext u P)) (by omega)
    unfold tailR remR
    obtain ⟨a1, a2⟩ := em_app t (tailR w (P.erase (ext u P))) [ext u P] (ext t (remR w (P.erase (ext u P))))
    rw [a1, a2, i1, i2]
    by_cases c : u = t
    · subst c
      have hm := List.mem_of_mem_erase (ext_mem u hQ)
      have ne : ext u (P.erase (ext u P)) ≠ ext u P := fun z => by
        have := ext_mem u hQ
        rw [z] at this
        exact ((nd.mem_erase_iff).mp this).1 rfl
      have bt : decide (ext u (P.erase (ext u P)) < ext u P) = u := by
        have := ext_le u hm
        unfold le' at this
        cases u <;> simp at this ⊢ <;> omega
      unfold em fin'
      rw [if_pos bt, if_pos bt]
      exact ⟨rfl, rfl⟩
    · have hu : u = !t := by cases u <;> cases t <;> simp_all
      subst hu
      have ne := ext_two (t := t) nd (by omega)
      have ey : ext t (P.erase (ext (!t) P)) = ext t P := ext_erase nd (Ne.symm ne) hP
      have ex : ext (!t) (P.erase (ext t P)) = ext (!t) P := ext_erase nd (by simpa using ne) hP
      have bt : ¬ decide (ext t (P.erase (ext (!t) P)) < ext (!t) P) = t := by
        rw [ey]
        have a := ext_le t (ext_mem (!t) hP)
        unfold le' at a
        cases t <;> simp at a ne ⊢ <;> omega
      unfold em fin'
      rw [if_neg bt, if_neg bt, ey, ex, List.erase_comm]
      exact ⟨rfl, rfl⟩
/-- a word leaves the kept ones and behind them the extremes -/
theorem after_form {L : List Int} (nd : L.Nodup) : ∀ (wr : List Bool), wr.length < L.length → ∃ K : List Int, afterL wr.reverse L = K ++ tailR wr L ∧ K.length + wr.length = L.length
  | [], _ => ⟨L, by simp [tailR], by simp⟩
  | t :: w, h => by
    simp only [List.length_cons] at h
    obtain ⟨K, e, hl⟩ := after_form nd w (by omega)
    have pk : (K ++ tailR w L).Perm L := by rw [← e]; exact afterL_perm _ _
    have pr := rem_tail_perm w L (by omega)
    have pK : K.Perm (remR w L) := (List.perm_append_right_iff _).mp (pk.trans pr.symm)
    match K, hl, e, pK with
    | [], hl, _, _ => simp at hl; omega
    | k :: K', hl, e, pK =>
      obtain ⟨c1, c2⟩ := tail_chair t w L nd (by omega)
      rw [← ext_perm pK (by simp), ← fin_ext] at c1 c2
      refine ⟨em t k K', ?_, by rw [em_len]; simp at hl ⊢; omega⟩
      rw [List.reverse_cons, afterL_app, e]
      show passG t k (K' ++ tailR w L) = _
      obtain ⟨a1, a2⟩ := em_app t K' (tailR w L) k
      rw [pass_em, a1, a2, c1, c2, show tailR (t :: w) L = tailR w (L.erase (ext t L)) ++ [ext t L] from rfl]
      simp
/-- as many passes as people less one: only who there is matters -/
theorem after_full {L M : List Int} (nd : L.Nodup) (p : L.Perm M) {w : List Bool} (h : w.length + 1 = L.length) : afterL w L = afterL w M := by
  obtain ⟨K, e1, l1⟩ := after_form nd w.reverse (by simp; omega)
  obtain ⟨K', e2, l2⟩ := after_form (p.nodup_iff.mp nd) w.reverse (by rw [← p.length_eq]; simp; omega)
  rw [List.reverse_reverse] at e1 e2
  rw [e1, e2]
  have et := tail_perm w.reverse p (by simp; omega)
  have pp : (K ++ tailR w.reverse L).Perm (K' ++ tailR w.reverse L) := by
    have a : (K ++ tailR w.reverse L).Perm L := by rw [← e1]; exact afterL_perm _ _
    have b : (K' ++ tailR w.reverse M).Perm M := by rw [← e2]; exact afterL_perm _ _
    rw [← et] at b
    exact a.trans (p.trans b.symm)
  have pK := (List.perm_append_right_iff _).mp pp
  rw [List.length_reverse] at l1 l2
  have e : K = K' := by
    match K, K', l1, l2, pK with
    | [a], [b], _, _, pK => exact List.perm_singleton.mp pK ▸ rfl
    | [], _, l1, _, _ => simp at l1; omega
    | _ :: _ :: _, _, l1, _, _ => simp at l1; omega
    | [_], [], _, l2, _ => have := p.length_eq; simp at l2; omega
    | [_], _ :: _ :: _, _, l2, _ => have := p.length_eq; simp at l2; omega
  rw [e, et]
/-- only the last letters matter -/
theorem after_last {L : List Int} (nd : L.Nodup) (h0 : 1 ≤ L.length) (w : List Bool) : afterL w L = afterL (w.drop (w.length + 1 - L.length)) L := by
  by_cases h : w.length + 1 ≤ L.length
  · rw [show w.length + 1 - L.length = 0 by omega, List.drop_zero]
  · have e : w = w.take (w.length + 1 - L.length) ++ w.drop (w.length + 1 - L.length) := (List.take_append_drop _ _).symm
    have p := afterL_perm (w.take (w.length + 1 - L.length)) L
    rw [show afterL w L = afterL (w.take (w.length + 1 - L.length) ++ w.drop (w.length + 1 - L.length)) L by rw [← e], afterL_app]
    exact after_full (p.nodup_iff.mpr nd) p (by rw [List.length_drop, afterL_len]; omega)
end
end PyI
-- PvN
namespace PyI
noncomputable section
open PySem PySem.Spec L2
def b_law_cell_v2 : MS := (mSeq (mIfS (mB (mBin (opC .Lt) (mVar 1) (mBlt .len [mVar 0]))) (mSeq (mRet (mBin opI (mVar 0) (mVar 1))) mNext) mNext) (mSeq (mAsg (mBin (opB .Mod) (mBin (opB .Mult) (mLit (.int 70003)) (mBin (opB .Add) (mBin (opB .Add) (mBin (opB .Mult) (mVar 1) (mVar 1)) (mBin (opB .Mult) (mLit (.int 11)) (mVar 1))) (mLit (.int 7)))) (mLit (.int 2147483399))) (gNm 2)) (mSeq (mFor (iPlain (mSl (mVar 0) oNone (mPart (mLit (.int 3))))) (gNm 3) (mSeq (mAsg (mBin (opB .Mod) (mBin (opB .Add) (mBin (opB .Mult) (mVar 2) (mLit (.int 39119))) (mVar 3)) (mLit (.int 2147483399))) (gNm 2)) mNext)) (mSeq (mRet (mVar 2)) mNext))))
def vl_law_cell_v2_1 : VS := vSeq (vAsg (vBin (uB .Mod) (vBin (uB .Add) (vBin (uB .Mult) (vVar 2) (vLit (.int 39119))) (vVar 3)) (vLit (.int 2147483399))) 2) vNext
def vb_law_cell_v2 : VS := vSeq (vIfS (vB (vBin (uC .Lt) (vVar 1) (vBlt .len [vVar 0]))) (vSeq (vRet (vBin uI (vVar 0) (vVar 1))) vNext) vNext) (vSeq (vAsg (vBin (uB .Mod) (vBin (uB .Mult) (vLit (.int 70003)) (vBin (uB .Add) (vBin (uB .Add) (vBin (uB .Mult) (vVar 1) (vVar 1)) (vBin (uB .Mult) (vLit (.int 11)) (vVar 1))) (vLit (.int 7)))) (vLit (.int 2147483399))) 2) (vSeq (vFor (vPlain (vSl (vVar 0) vNone (vPart (vLit (.int 3))))) (vgNm 3) vl_law_cell_v2_1) (vSeq (vRet (vVar 2)) vNext)))
def V_law_cell_v2 : VF := runV vb_law_cell_v2 2 4
theorem sim_law_cell_v2 : SimS (b_law_cell_v2) vb_law_cell_v2 := sims_seq (sims_if (sim_B (sim_bin (osim_C _) sim_var (sim_blt (.cons sim_var .nil)))) (sims_seq (sims_ret (sim_bin osim_I sim_var sim_var)) sims_next) sims_next) (sims_seq (sims_asg (sim_bin (osim_B _) (sim_bin (osim_B _) (sim_lit fun _ _ => .int _) (sim_bin (osim_B _) (sim_bin (osim_B _) (sim_bin (osim_B _) sim_var sim_var) (sim_bin (osim_B _) (sim_lit fun _ _ => .int _) sim_var)) (sim_lit fun _ _ => .int _))) (sim_lit fun _ _ => .int _))) (sims_seq (sims_for (simi_plain (sim_sl sim_var sim_none (sim_part (sim_lit fun _ _ => .int _)))) simg_nm (sims_seq (sims_asg (sim_bin (osim_B _) (sim_bin (osim_B _) (sim_bin (osim_B _) sim_var (sim_lit fun _ _ => .int _)) sim_var) (sim_lit fun _ _ => .int _))) sims_next)) (sims_seq (sims_ret sim_var) sims_next)))
def b_law_pool_v2 : MS := (mSeq (mAsg (mIf (mOrT [mB (mBin (opC .Lt) (mVar 0) (mLit (.int 0))), mB (mBin (opC .GtE) (mVar 0) (mBin (opB .Pow) (mLit (.int 10)) (mLit (.int 18))))]) (mBlt .abs [mVar 0]) (mLit (.int 0))) (gNm 1)) (mSeq (mRet (mLst [mBin (opB .Mod) (mVar 0) (mLit (.int 2147483399)), mVar 1, mLit (.int 0)])) mNext))
def vb_law_pool_v2 : VS := vSeq (vAsg (vIf (vOrT [vB (vBin (uC .Lt) (vVar 0) (vLit (.int 0))), vB (vBin (uC .GtE) (vVar 0) (vBin (uB .Pow) (vLit (.int 10)) (vLit (.int 18))))]) (vBlt .abs [vVar 0]) (vLit (.int 0))) 1) (vSeq (vRet (vLst [vBin (uB .Mod) (vVar 0) (vLit (.int 2147483399)), vVar 1, vLit (.int 0)])) vNext)
def V_law_pool_v2 : VF := runV vb_law_pool_v2 1 2
theorem sim_law_pool_v2 : SimS (b_law_pool_v2) vb_law_pool_v2 := sims_seq (sims_asg (sim_if (sim_orT (.cons (sim_B (sim_bin (osim_C _) sim_var (sim_lit fun _ _ => .int _))) (.cons (sim_B (sim_bin (osim_C _) sim_var (sim_bin (osim_B _) (sim_lit fun _ _ => .int _) (sim_lit fun _ _ => .int _)))) .nil))) (sim_blt (.cons sim_var .nil)) (sim_lit fun _ _ => .int _))) (sims_seq (sims_ret (sim_lst (.cons (sim_bin (osim_B _) sim_var (sim_lit fun _ _ => .int _)) (.cons sim_var (.cons (sim_lit fun _ _ => .int _) .nil))))) sims_next)
def b_law_draw_v2 : MS := (mSeq (mAsg (mBin (opB .Add) (mBin opI (mVar 0) (mLit (.int 2))) (mLit (.int 1))) (gSubM (mVar 0) (mLit (.int 2)))) (mSeq (mAsg (mBin opI (mVar 0) (mLit (.int 0))) (gNm 2)) (mSeq (mAsg (mBin (opB .Mod) (mBin (opB .Add) (mBin (opB .Mult) (mVar 2) (mBin (opB .Add) (mBin (opB .Mod) (mVar 2) (mLit (.int 40961))) (mLit (.int 30029)))) (mBin (opB .Mult) (mLit (.int 70003)) (mBin opI (mVar 0) (mLit (.int 2))))) (mLit (.int 2147483399))) (gSubM (mVar 0) (mLit (.int 0)))) (mSeq (mIfS (mB (mBin (opC .Gt) (mBin opI (mVar 0) (mLit (.int 1))) (mLit (.int 0)))) (mSeq (mAsg (mBlt .divmod [mBin opI (mVar 0) (mLit (.int 1)), mVar 1]) (gTp [gSubM (mVar 0) (mLit (.int 1)), gNm 3])) (mSeq (mRet (mVar 3)) mNext)) mNext) (mSeq (mRet (mBin (opB .Mod) (mBin (opB .FloorDiv) (mBin opI (mVar 0) (mLit (.int 0))) (mLit (.int 64))) (mVar 1))) mNext)))))
def vb_law_draw_v2 : VS := vSeq (vAsgG (vBin (uB .Add) (vBin uI (vVar 0) (vLit (.int 2))) (vLit (.int 1))) (vgSub 0 (vLit (.int 2)))) (vSeq (vAsg (vBin uI (vVar 0) (vLit (.int 0))) 2) (vSeq (vAsgG (vBin (uB .Mod) (vBin (uB .Add) (vBin (uB .Mult) (vVar 2) (vBin (uB .Add) (vBin (uB .Mod) (vVar 2) (vLit (.int 40961))) (vLit (.int 30029)))) (vBin (uB .Mult) (vLit (.int 70003)) (vBin uI (vVar 0) (vLit (.int 2))))) (vLit (.int 2147483399))) (vgSub 0 (vLit (.int 0)))) (vSeq (vIfS (vB (vBin (uC .Gt) (vBin uI (vVar 0) (vLit (.int 1))) (vLit (.int 0)))) (vSeq (vAsgG (vBlt .divmod [vBin uI (vVar 0) (vLit (.int 1)), vVar 1]) (vgTp [vgSub 0 (vLit (.int 1)), vgNm 3])) (vSeq (vRet (vVar 3)) vNext)) vNext) (vSeq (vRet (vBin (uB .Mod) (vBin (uB .FloorDiv) (vBin uI (vVar 0) (vLit (.int 0))) (vLit (.int 64))) (vVar 1))) vNext))))
def V_law_draw_v2 : VF := runV1 vb_law_draw_v2 2 4
theorem sim_law_draw_v2 : SimS (b_law_draw_v2) vb_law_draw_v2 := sims_seq (sims_asgG (sim_bin (osim_B _) (sim_bin osim_I sim_var (sim_lit fun _ _ => .int _)) (sim_lit fun _ _ => .int _)) (simg_sub (sim_lit fun _ _ => .int _))) (sims_seq (sims_asg (sim_bin osim_I sim_var (sim_lit fun _ _ => .int _))) (sims_seq (sims_asgG (sim_bin (osim_B _) (sim_bin (osim_B _) (sim_bin (osim_B _) sim_var (sim_bin (osim_B _) (sim_bin (osim_B _) sim_var (sim_lit fun _ _ => .int _)) (sim_lit fun _ _ => .int _))) (sim_bin (osim_B _) (sim_lit fun _ _ => .int _) (sim_bin osim_I sim_var (sim_lit fun _ _ => .int _)))) (sim_lit fun _ _ => .int _)) (simg_sub (sim_lit fun _ _ => .int _))) (sims_seq (sims_if (sim_B (sim_bin (osim_C _) (sim_bin osim_I sim_var (sim_lit fun _ _ => .int _)) (sim_lit fun _ _ => .int _))) (sims_seq (sims_asgG (sim_blt (.cons (sim_bin osim_I sim_var (sim_lit fun _ _ => .int _)) (.cons sim_var .nil))) (simg_tp (.cons (simg_sub (sim_lit fun _ _ => .int _)) (.cons simg_nm .nil)))) (sims_seq (sims_ret sim_var) sims_next)) sims_next) (sims_seq (sims_ret (sim_bin (osim_B _) (sim_bin (osim_B _) (sim_bin osim_I sim_var (sim_lit fun _ _ => .int _)) (sim_lit fun _ _ => .int _)) sim_var)) sims_next))))
def b_law_persons (G_law_draw_v2 : List D → DH → Res D) : MS := (mSeq (mAsg (mCallK G_law_draw_v2 2 2 0 [0, 1] [mVar 0, mLit (.int 4)] []) (gNm 2)) (mSeq (mIfS (mB (mBin (opC .Eq) (mVar 2) (mLit (.int 0)))) (mSeq (mRet (mLstRg [mLit (.int 1), mBin (opB .Add) (mVar 1) (mLit (.int 1))])) mNext) mNext) (mSeq (mIfS (mB (mBin (opC .Eq) (mVar 2) (mLit (.int 1)))) (mSeq (mRet (mLstRg [mBin (opB .Sub) (mLit (.int 1000)) (mVar 1), mLit (.int 1000)])) mNext) mNext) (mSeq (mAsg (mLstRg [mLit (.int 1), mLit (.int 1000)]) (gNm 3)) (mSeq (mRet (mBlt .sorted [mLc (iRange rngOf1 [mVar 1]) (gNm 4) tYesM (mMeth "pop" (mVar 3) [mCallK G_law_draw_v2 2 2 0 [0, 1] [mVar 0, mBlt .len [mVar 3]] []]) [4]])) mNext)))))
def vc_law_persons_1 : VE := vPopI 3 (vCall1 V_law_draw_v2 0 [vBlt .len [vVar 3]])
def vb_law_persons : VS := vSeq (vAsg (vCall1 V_law_draw_v2 0 [vLit (.int 4)]) 2) (vSeq (vIfS (vB (vBin (uC .Eq) (vVar 2) (vLit (.int 0)))) (vSeq (vRet (vLstRg [vLit (.int 1), vBin (uB .Add) (vVar 1) (vLit (.int 1))])) vNext) vNext) (vSeq (vIfS (vB (vBin (uC .Eq) (vVar 2) (vLit (.int 1)))) (vSeq (vRet (vLstRg [vBin (uB .Sub) (vLit (.int 1000)) (vVar 1), vLit (.int 1000)])) vNext) vNext) (vSeq (vAsg (vLstRg [vLit (.int 1), vLit (.int 1000)]) 3) (vSeq (vRet (vBlt .sorted [vLc (vRange rng1U [vVar 1]) (vgNm 4) vYes vc_law_persons_1 [4]])) vNext))))
def V_law_persons : VF := runV1 vb_law_persons 2 5
theorem sim_law_persons {G_law_draw_v2 : List D → DH → Res D} (f_law_draw_v2 : FSim1 G_law_draw_v2 V_law_draw_v2) : SimS (b_law_persons G_law_draw_v2) vb_law_persons := sims_seq (sims_asg (sim_call1 f_law_draw_v2 rfl (.cons (sim_lit fun _ _ => .int _) .nil) rfl rfl)) (sims_seq (sims_if (sim_B (sim_bin (osim_C _) sim_var (sim_lit fun _ _ => .int _))) (sims_seq (sims_ret (sim_lstRg (.cons (sim_lit fun _ _ => .int _) (.cons (sim_bin (osim_B _) sim_var (sim_lit fun _ _ => .int _)) .nil)))) sims_next) sims_next) (sims_seq (sims_if (sim_B (sim_bin (osim_C _) sim_var (sim_lit fun _ _ => .int _))) (sims_seq (sims_ret (sim_lstRg (.cons (sim_bin (osim_B _) (sim_lit fun _ _ => .int _) sim_var) (.cons (sim_lit fun _ _ => .int _) .nil)))) sims_next) sims_next) (sims_seq (sims_asg (sim_lstRg (.cons (sim_lit fun _ _ => .int _) (.cons (sim_lit fun _ _ => .int _) .nil)))) (sims_seq (sims_ret (sim_blt (.cons (sim_lc (simi_range rgs1 (.cons sim_var .nil)) simg_nm (keep_nm (by decide)) sim_yes (sim_popI (sim_call1 f_law_draw_v2 rfl (.cons (sim_blt (.cons sim_var .nil)) .nil) rfl rfl))) .nil))) sims_next))))
def b_law_shuffled (G_law_draw_v2 : List D → DH → Res D) : MS := (mSeq (mPar [3, 4] [mBlt .list [mVar 1], mLst []]) (mSeq (mFor (iRange rngOf1 [mBlt .len [mVar 1]]) (gNm 2) (mSeq (mDrop (mMeth "append" (mVar 4) [mMeth "pop" (mVar 3) [mCallK G_law_draw_v2 2 2 0 [0, 1] [mVar 0, mBlt .len [mVar 3]] []]])) mNext)) (mSeq (mRet (mBlt .tuple [mVar 4])) mNext)))
def vl_law_shuffled_1 : VS := vSeq (vDrop (vApp 4 (vPopI 3 (vCall1 V_law_draw_v2 0 [vBlt .len [vVar 3]])))) vNext
def vb_law_shuffled : VS := vSeq (vPar [3, 4] [vBlt .list [vVar 1], vLst []]) (vSeq (vFor (vRange rng1U [vBlt .len [vVar 1]]) (vgNm 2) vl_law_shuffled_1) (vSeq (vRet (vBlt .tuple [vVar 4])) vNext))
def V_law_shuffled : VF := runV1 vb_law_shuffled 2 5
theorem sim_law_shuffled {G_law_draw_v2 : List D → DH → Res D} (f_law_draw_v2 : FSim1 G_law_draw_v2 V_law_draw_v2) : SimS (b_law_shuffled G_law_draw_v2) vb_law_shuffled := sims_seq (sims_par (.cons (sim_blt (.cons sim_var .nil)) (.cons (sim_lst .nil) .nil))) (sims_seq (sims_for (simi_range rgs1 (.cons (sim_blt (.cons sim_var .nil)) .nil)) simg_nm (sims_seq (sims_drop (sim_app (sim_popI (sim_call1 f_law_draw_v2 rfl (.cons (sim_blt (.cons sim_var .nil)) .nil) rfl rfl)))) sims_next)) (sims_seq (sims_ret (sim_blt (.cons sim_var .nil))) sims_next))
def b_law_letters_v2 (G_law_draw_v2 : List D → DH → Res D) : MS := (mSeq (mPar [2, 3] [mBin (opB .Add) (mLit (.int 1)) (mCallK G_law_draw_v2 2 2 0 [0, 1] [mVar 0, mLit (.int 3)] []), mLit (.str "")]) (mSeq (mWhile (mB (mBin (opC .Lt) (mBlt .len [mVar 3]) (mVar 1))) (mSeq (mAsg (mBin (opB .Add) (mVar 3) (mBin (opB .Mult) (mBin opI (mLit (.str "ST")) (mCallK G_law_draw_v2 2 2 0 [0, 1] [mVar 0, mLit (.int 2)] [])) (mBin (opB .Add) (mLit (.int 1)) (mCallK G_law_draw_v2 2 2 0 [0, 1] [mVar 0, mVar 2] [])))) (gNm 3)) mNext)) (mSeq (mRet (mSl (mVar 3) oNone (mPart (mVar 1)))) mNext)))
def vt_law_letters_v2_1 : VT := vB (vBin (uC .Lt) (vBlt .len [vVar 3]) (vVar 1))
def vl_law_letters_v2_1 : VS := vSeq (vAsg (vBin (uB .Add) (vVar 3) (vBin (uB .Mult) (vBin uI (vLit (.str "ST")) (vCall1 V_law_draw_v2 0 [vLit (.int 2)])) (vBin (uB .Add) (vLit (.int 1)) (vCall1 V_law_draw_v2 0 [vVar 2])))) 3) vNext
def vb_law_letters_v2 : VS := vSeq (vPar [2, 3] [vBin (uB .Add) (vLit (.int 1)) (vCall1 V_law_draw_v2 0 [vLit (.int 3)]), vLit (.str "")]) (vSeq (vWhile vt_law_letters_v2_1 vl_law_letters_v2_1) (vSeq (vRet (vSl (vVar 3) vNone (vPart (vVar 1)))) vNext))
def V_law_letters_v2 : VF := runV1 vb_law_letters_v2 2 4
theorem sim_law_letters_v2 {G_law_draw_v2 : List D → DH → Res D} (f_law_draw_v2 : FSim1 G_law_draw_v2 V_law_draw_v2) : SimS (b_law_letters_v2 G_law_draw_v2) vb_law_letters_v2 := sims_seq (sims_par (.cons (sim_bin (osim_B _) (sim_lit fun _ _ => .int _) (sim_call1 f_law_draw_v2 rfl (.cons (sim_lit fun _ _ => .int _) .nil) rfl rfl)) (.cons (sim_lit fun _ _ => .str _) .nil))) (sims_seq (sims_while (sim_B (sim_bin (osim_C _) (sim_blt (.cons sim_var .nil)) sim_var)) (sims_seq (sims_asg (sim_bin (osim_B _) sim_var (sim_bin (osim_B _) (sim_bin osim_I (sim_lit fun _ _ => .str _) (sim_call1 f_law_draw_v2 rfl (.cons (sim_lit fun _ _ => .int _) .nil) rfl rfl)) (sim_bin (osim_B _) (sim_lit fun _ _ => .int _) (sim_call1 f_law_draw_v2 rfl (.cons sim_var .nil) rfl rfl))))) sims_next)) (sims_seq (sims_ret (sim_sl sim_var sim_none (sim_part sim_var))) sims_next))
def b_law_length_v2 (G_law_draw_v2 : List D → DH → Res D) : MS := (mSeq (mAsg (mLst [mLit (.int 0), mBlt .max [mLit (.int 0), mBin (opB .Sub) (mVar 1) (mLit (.int 2))], mBin (opB .Sub) (mVar 1) (mLit (.int 1)), mVar 1, mBin (opB .Add) (mVar 1) (mLit (.int 1)), mCallK G_law_draw_v2 2 2 0 [0, 1] [mVar 0, mLit (.int 31)] [], mCallK G_law_draw_v2 2 2 0 [0, 1] [mVar 0, mLit (.int 401)] [], mLit (.int 400)]) (gNm 2)) (mSeq (mRet (mBin opI (mVar 2) (mCallK G_law_draw_v2 2 2 0 [0, 1] [mVar 0, mLit (.int 8)] []))) mNext))
def vb_law_length_v2 : VS := vSeq (vAsg (vLst [vLit (.int 0), vBlt .max [vLit (.int 0), vBin (uB .Sub) (vVar 1) (vLit (.int 2))], vBin (uB .Sub) (vVar 1) (vLit (.int 1)), vVar 1, vBin (uB .Add) (vVar 1) (vLit (.int 1)), vCall1 V_law_draw_v2 0 [vLit (.int 31)], vCall1 V_law_draw_v2 0 [vLit (.int 401)], vLit (.int 400)]) 2) (vSeq (vRet (vBin uI (vVar 2) (vCall1 V_law_draw_v2 0 [vLit (.int 8)]))) vNext)
def V_law_length_v2 : VF := runV1 vb_law_length_v2 2 3
theorem sim_law_length_v2 {G_law_draw_v2 : List D → DH → Res D} (f_law_draw_v2 : FSim1 G_law_draw_v2 V_law_draw_v2) : SimS (b_law_length_v2 G_law_draw_v2) vb_law_length_v2 := sims_seq (sims_asg (sim_lst (.cons (sim_lit fun _ _ => .int _) (.cons (sim_blt (.cons (sim_lit fun _ _ => .int _) (.cons (sim_bin (osim_B _) sim_var (sim_lit fun _ _ => .int _)) .nil))) (.cons (sim_bin (osim_B _) sim_var (sim_lit fun _ _ => .int _)) (.cons sim_var (.cons (sim_bin (osim_B _) sim_var (sim_lit fun _ _ => .int _)) (.cons (sim_call1 f_law_draw_v2 rfl (.cons (sim_lit fun _ _ => .int _) .nil) rfl rfl) (.cons (sim_call1 f_law_draw_v2 rfl (.cons (sim_lit fun _ _ => .int _) .nil) rfl rfl) (.cons (sim_lit fun _ _ => .int _) .nil)))))))))) (sims_seq (sims_ret (sim_bin osim_I sim_var (sim_call1 f_law_draw_v2 rfl (.cons (sim_lit fun _ _ => .int _) .nil) rfl rfl))) sims_next)
def b_law_passed_v3 : MS := (mSeq (mPar [3, 4] [mBin opI (mVar 0) (mLit (.int 0)), mLst []]) (mSeq (mFor (iPlain (mSl (mVar 0) (mPart (mLit (.int 1))) oNone)) (gNm 2) (mSeq (mIfS (mB (mBin (opC .Eq) (mBin (opC .Gt) (mVar 2) (mVar 3)) (mBin (opC .Eq) (mVar 1) (mLit (.str "T"))))) (mSeq (mDrop (mMeth "append" (mVar 4) [mVar 3])) (mSeq (mAsg (mVar 2) (gNm 3)) mNext)) (mSeq (mDrop (mMeth "append" (mVar 4) [mVar 2])) mNext)) mNext)) (mSeq (mRet (mBlt .tuple [mBin (opB .Add) (mVar 4) (mLst [mVar 3])])) mNext)))
def vl_law_passed_v3_1 : VS := vSeq (vIfS (vB (vBin (uC .Eq) (vBin (uC .Gt) (vVar 2) (vVar 3)) (vBin (uC .Eq) (vVar 1) (vLit (.str "T"))))) (vSeq (vDrop (vApp 4 (vVar 3))) (vSeq (vAsg (vVar 2) 3) vNext)) (vSeq (vDrop (vApp 4 (vVar 2))) vNext)) vNext
def vb_law_passed_v3 : VS := vSeq (vPar [3, 4] [vBin uI (vVar 0) (vLit (.int 0)), vLst []]) (vSeq (vFor (vPlain (vSl (vVar 0) (vPart (vLit (.int 1))) vNone)) (vgNm 2) vl_law_passed_v3_1) (vSeq (vRet (vBlt .tuple [vBin (uB .Add) (vVar 4) (vLst [vVar 3])])) vNext))
def V_law_passed_v3 : VF := runV vb_law_passed_v3 2 5
theorem sim_law_passed_v3 : SimS (b_law_passed_v3) vb_law_passed_v3 := sims_seq (sims_par (.cons (sim_bin osim_I sim_var (sim_lit fun _ _ => .int _)) (.cons (sim_lst .nil) .nil))) (sims_seq (sims_for (simi_plain (sim_sl sim_var (sim_part (sim_lit fun _ _ => .int _)) sim_none)) simg_nm (sims_seq (sims_if (sim_B (sim_bin (osim_C _) (sim_bin (osim_C _) sim_var sim_var) (sim_bin (osim_C _) sim_var (sim_lit fun _ _ => .str _)))) (sims_seq (sims_drop (sim_app sim_var)) (sims_seq (sims_asg sim_var) sims_next)) (sims_seq (sims_drop (sim_app sim_var)) sims_next)) sims_next)) (sims_seq (sims_ret (sim_blt (.cons (sim_bin (osim_B _) sim_var (sim_lst (.cons sim_var .nil))) .nil))) sims_next))
def b_law_walked_v2 (G_law_passed_v3 : List D → DH → Res D) : MS := (mSeq (mFor (iPlain (mVar 1)) (gNm 2) (mSeq (mAsg (mCallK G_law_passed_v3 2 2 0 [0, 1] [mVar 0, mVar 2] []) (gNm 0)) mNext)) (mSeq (mRet (mVar 0)) mNext))
def vl_law_walked_v2_1 : VS := vSeq (vAsg (vCall V_law_passed_v3 [0, 1] [vVar 0, vVar 2]) 0) vNext
def vb_law_walked_v2 : VS := vSeq (vFor (vPlain (vVar 1)) (vgNm 2) vl_law_walked_v2_1) (vSeq (vRet (vVar 0)) vNext)
def V_law_walked_v2 : VF := runV vb_law_walked_v2 2 3
theorem sim_law_walked_v2 {G_law_passed_v3 : List D → DH → Res D} (f_law_passed_v3 : FSim G_law_passed_v3 V_law_passed_v3) : SimS (b_law_walked_v2 G_law_passed_v3) vb_law_walked_v2 := sims_seq (sims_for (simi_plain sim_var) simg_nm (sims_seq (sims_asg (sim_call f_law_passed_v3 rfl (.cons sim_var (.cons sim_var .nil)) rfl rfl)) sims_next)) (sims_seq (sims_ret sim_var) sims_next)
def b_law_last : MS := (mSeq (mRet (mSl (mVar 0) (mPart (mBlt .max [mLit (.int 0), mBin (opB .Add) (mBin (opB .Sub) (mBlt .len [mVar 0]) (mVar 1)) (mLit (.int 1))])) oNone)) mNext)
def vb_law_last : VS := vSeq (vRet (vSl (vVar 0) (vPart (vBlt .max [vLit (.int 0), vBin (uB .Add) (vBin (uB .Sub) (vBlt .len [vVar 0]) (vVar 1)) (vLit (.int 1))])) vNone)) vNext
def V_law_last : VF := runV vb_law_last 2 2
theorem sim_law_last : SimS (b_law_last) vb_law_last := sims_seq (sims_ret (sim_sl sim_var (sim_part (sim_blt (.cons (sim_lit fun _ _ => .int _) (.cons (sim_bin (osim_B _) (sim_bin (osim_B _) (sim_blt (.cons sim_var .nil)) sim_var) (sim_lit fun _ _ => .int _)) .nil)))) sim_none)) sims_next
def b_check_size (G_is_integer : List D → DH → Res D) : MS := (mSeq (mIfS (mNotT (mTru (mCallK G_is_integer 3 3 0 [0, 1, 2] [mVar 0, mLit (.int 1), mLit (.int 12)] []))) (mSeq mStNo mNext) mNext) mNext)
def vb_check_size : VS := vSeq (vIfS (vNotT (vTru (vCall V_is_integer [0, 1, 2] [vVar 0, vLit (.int 1), vLit (.int 12)]))) (vSeq vStNo vNext) vNext) vNext
def V_check_size : VF := runV vb_check_size 1 1
theorem sim_check_size {G_is_integer : List D → DH → Res D} (f_is_integer : FSim G_is_integer V_is_integer) : SimS (b_check_size G_is_integer) vb_check_size := sims_seq (sims_if (sim_notT (sim_tru (sim_call f_is_integer rfl (.cons sim_var (.cons (sim_lit fun _ _ => .int _) (.cons (sim_lit fun _ _ => .int _) .nil))) rfl rfl))) (sims_seq sims_no sims_next) sims_next) sims_next
def b_last_letters : MS := (mSeq (mRet (mSl (mVar 0) (mPart (mBlt .max [mLit (.int 0), mBin (opB .Add) (mBin (opB .Sub) (mBlt .len [mVar 0]) (mVar 1)) (mLit (.int 1))])) oNone)) mNext)
def vb_last_letters : VS := vSeq (vRet (vSl (vVar 0) (vPart (vBlt .max [vLit (.int 0), vBin (uB .Add) (vBin (uB .Sub) (vBlt .len [vVar 0]) (vVar 1)) (vLit (.int 1))])) vNone)) vNext
def V_last_letters : VF := runV vb_last_letters 2 2
theorem sim_last_letters : SimS (b_last_letters) vb_last_letters := sims_seq (sims_ret (sim_sl sim_var (sim_part (sim_blt (.cons (sim_lit fun _ _ => .int _) (.cons (sim_bin (osim_B _) (sim_bin (osim_B _) (sim_blt (.cons sim_var .nil)) sim_var) (sim_lit fun _ _ => .int _)) .nil)))) sim_none)) sims_next
def b_shortest (G_check_size G_check_word G_last_letters : List D → DH → Res D) : MS := (mSeq (mDrop (mCallK G_check_word 1 1 0 [0] [mVar 0] [])) (mSeq (mDrop (mCallK G_check_size 1 1 0 [0] [mVar 1] [])) (mSeq (mRet (mCallK G_last_letters 2 2 0 [0, 1] [mVar 0, mVar 1] [])) mNext)))
def vb_shortest : VS := vSeq (vDrop (vCall V_check_word [0] [vVar 0])) (vSeq (vDrop (vCall V_check_size [0] [vVar 1])) (vSeq (vRet (vCall V_last_letters [0, 1] [vVar 0, vVar 1])) vNext))
def V_shortest : VF := runV vb_shortest 2 2
theorem sim_shortest {G_check_size G_check_word G_last_letters : List D → DH → Res D} (f_check_size : FSim G_check_size V_check_size) (f_check_word : FSim G_check_word V_check_word) (f_last_letters : FSim G_last_letters V_last_letters) : SimS (b_shortest G_check_size G_check_word G_last_letters) vb_shortest := sims_seq (sims_drop (sim_call f_check_word rfl (.cons sim_var .nil) rfl rfl)) (sims_seq (sims_drop (sim_call f_check_size rfl (.cons sim_var .nil) rfl rfl)) (sims_seq (sims_ret (sim_call f_last_letters rfl (.cons sim_var (.cons sim_var .nil)) rfl rfl)) sims_next))
theorem cell2 : V_law_cell_v2 = V_law_cell := rfl
theorem pool2 : V_law_pool_v2 = V_law_pool := rfl
theorem draw2 : V_law_draw_v2 = V_law_draw := rfl
theorem persons2 : V_law_persons = V_law_heights := rfl
theorem passed3 : V_law_passed_v3 = V_law_single := rfl
theorem single_loop (rw kk : U × Fl) (t : Bool) (hk : kk = (.str (kd t), .bor)) : ∀ (r : List Int) (s : Int) (A : List Int) (v : Option (U × Fl)), A.length + r.length < 100000 → ∃ (s' : Int) (A' : List Int) (v' : Option (U × Fl)), A' ++ [s'] = A ++ passG t s r ∧ A'.length < 100000 ∧
    forV (vgNm 2) vl_law_single_1 (r.map U.int) [some rw, some kk, v, some (.int s, .shr), some (.lst (A.map .int), .own)] = .nx [some rw, some kk, v', some (.int s', .shr), some (.lst (A'.map .int), .own)]
  | [], s, A, v, h1 => ⟨s, A, v, rfl, by simpa using h1, rfl⟩
  | p :: r, s, A, v, h1 => by
    subst hk
    simp only [List.length_cons] at h1
    have a1 : A.length < 16777216 := by omega
    by_cases c : decide (s < p) = t
    · obtain ⟨s', A', v', e1, e3, e⟩ := single_loop rw (.str (kd t), .bor) t rfl r p (A ++ [s]) (some (.int p, .shr)) (by simp; omega)
      refine ⟨s', A', v', by rw [e1, passG, if_pos c]; simp, e3, ?_⟩
      rw [List.map_cons, for_cons]
      simp [vl_law_single_1, kd_T, c, a1]
      simpa [vl_law_single_1] using e
    · obtain ⟨s', A', v', e1, e3, e⟩ := single_loop rw (.str (kd t), .bor) t rfl r s (A ++ [p]) (some (.int p, .shr)) (by simp; omega)
      refine ⟨s', A', v', by rw [e1, passG, if_neg c]; simp, e3, ?_⟩
      rw [List.map_cons, for_cons]
      simp [vl_law_single_1, kd_T, c, a1]
      simpa [vl_law_single_1] using e
theorem single_V (t : Bool) {L : List Int} (h0 : 1 ≤ L.length) (h1 : L.length ≤ 1000) : V_law_single [.tup (L.map .int), .str (kd t)] = .ok (.tup ((passL t L).map .int)) false .non := by
  cases L with
  | nil => simp at h0
  | cons s r =>
    simp only [List.length_cons] at h1
    obtain ⟨s', A', v', e1, e3, e⟩ := single_loop (.tup ((s :: r).map .int), .bor) (.str (kd t), .bor) t rfl r s [] none (by simp; omega)
    have hn : r.length < 1000000 := by omega
    have ha : A'.length + 1 ≤ 16777216 := by omega
    have hp : passL t (s :: r) = A' ++ [s'] := by rw [e1]; rfl
    have c1 : cutL (U.int s :: r.map U.int) (some 1) none = r.map U.int := cut_from (U.int s :: r.map U.int) 1
    rw [hp]
    simp at e
    simp [V_law_single, runV, vb_law_single, hn, atu0, c1, e, ha]

theorem walked_loop (s1 : Option (U × Fl)) : ∀ (w : List Bool) (L : List Int) (f : Fl) (x : Option (U × Fl)), f = .bor ∨ f = .shr → 1 ≤ L.length → L.length ≤ 1000 → ∃ (f' : Fl) (x' : Option (U × Fl)), (f' = .bor ∨ f' = .shr) ∧ forV (vgNm 2) vl_law_walked_v2_1 (w.map fun t => U.str (kd t)) [some (.tup (L.map .int), f), s1, x] = .nx [some (.tup ((afterL w L).map .int), f'), s1, x']
  | [], L, f, x, hf, _, _ => ⟨f, x, hf, rfl⟩
  | t :: w, L, f, x, hf, h0, h1 => by
    obtain ⟨f', x', hf', e⟩ := walked_loop s1 w (passL t L) .shr (some (.str (kd t), .shr)) (.inr rfl) (by rw [passL_len]; exact h0) (by rw [passL_len]; exact h1)
    refine ⟨f', x', hf', (for_step (su1 := [some (.tup (L.map .int), f), s1, some (.str (kd t), .shr)]) rfl ?_).trans e⟩
    have a := single_V t h0 h1
    rcases hf with rfl | rfl <;> simp [vl_law_walked_v2_1, passed3, a, atu0]
theorem walked_V (w : List Bool) {L : List Int} (hw : w.length < 1000000) (h0 : 1 ≤ L.length) (h1 : L.length ≤ 1000) : V_law_walked_v2 [.tup (L.map .int), .str (wd w)] = .ok (.tup ((afterL w L).map .int)) false .non := by
  obtain ⟨f', x', hf', e⟩ := walked_loop (some (.str (wd w), .bor)) w L .bor none (.inl rfl) h0 h1
  rcases hf' with rfl | rfl <;> simp [V_law_walked_v2, runV, vb_law_walked_v2, wd_chars, hw, e]
theorem draw_V2 {p : List U} {k : Int} (hp : PoolU p) (h1 : 1 ≤ k) (h2 : k < 1073741824) : ∃ r p', PoolU p' ∧ 0 ≤ r ∧ r < k ∧ V_law_draw_v2 [.lst p, .int k] = .ok (.int r) false (.lst p') := by rw [draw2]; exact draw_V hp h1 h2
theorem persons_V {p : List U} {z : Int} (hp : PoolU p) (z0 : 1 ≤ z) (z1 : z ≤ 999) : ∃ (L : List Int) (p' : List U), PoolU p' ∧ (L.length : Int) = z ∧ HL L ∧ V_law_persons [.lst p, .int z] = .ok (.lst (L.map .int)) true (.lst p') := by rw [persons2]; exact heights_V hp z0 z1
theorem shuf_loop (z1 : Option (U × Fl)) : ∀ (xs : List Int) (M A : List Int) (p : List U) (v : Option (U × Fl)), PoolU p → xs.length = M.length → M.length + A.length < 100000 → ∃ (L : List Int) (p' : List U) (v' : Option (U × Fl)), PoolU p' ∧ L.Perm (A ++ M) ∧
    forV (vgNm 2) vl_law_shuffled_1 (xs.map U.int) [some (.lst p, .io), z1, v, some (.lst (M.map .int), .own), some (.lst (A.map .int), .own)] = .nx [some (.lst p', .io), z1, v', some (.lst [], .own), some (.lst (L.map .int), .own)]
  | [], M, A, p, v, hp, h1, _ => by
    have : M = [] := List.length_eq_zero_iff.mp h1.symm
    subst this
    exact ⟨A, p, v, hp, by simp, rfl⟩
  | x :: r, M, A, p, v, hp, h1, h2 => by
    simp at h1
    obtain ⟨k, p1, hp1, k0, k1, e1⟩ := draw_V2 (k := M.length) hp (by omega) (by omega)
    have hk : k.toNat < M.length := by omega
    have le := List.length_eraseIdx_of_lt hk
    obtain ⟨L, p', v', hp', pm, e⟩ := shuf_loop z1 r (M.eraseIdx k.toNat) (A ++ [M[k.toNat]]) p1 (some (.int x, .shr)) hp1 (by omega) (by simp; omega)
    refine ⟨L, p', v', hp', pm.trans ?_, ?_⟩
    · rw [List.append_assoc]
      exact (erase_split hk).append_left A
    · have px : popIx k M.length = some k.toNat := popIx_i k0 (by omega) (by omega)
      have hA : A.length < 16777216 := by omega
      refine (for_step (su1 := [some (.lst p, .io), z1, some (.int x, .shr), some (.lst (M.map .int), .own), some (.lst (A.map .int), .own)]) rfl ?_).trans e
      simp [vl_law_shuffled_1, e1, px, hk, map_eraseU, hA]
theorem shuffled_V {p : List U} {L : List Int} (hp : PoolU p) (hL : L.length < 50000) : ∃ (M : List Int) (p' : List U), PoolU p' ∧ M.Perm L ∧ V_law_shuffled [.lst p, .lst (L.map .int)] = .ok (.tup (M.map .int)) false (.lst p') := by
  have len2 := rgL_len 0 L.length
  obtain ⟨M, p', v', hp', pm, e⟩ := shuf_loop (some (.lst (L.map .int), .bor)) (rgL 0 L.length) L [] p none hp (by omega) (by simp; omega)
  rw [List.nil_append] at pm
  have hn : (rgL 0 L.length).length < 1000000 := by omega
  have s1 : smallI (L.length : Int) = true := smallI_i (by omega) (by omega)
  refine ⟨M, p', hp', pm, ?_⟩
  rw [List.map_nil] at e
  simp [V_law_shuffled, runV1, vb_law_shuffled, s1, hn, e]
theorem shuffledT_V {p : List U} {L : List Int} (hp : PoolU p) (hL : L.length < 50000) : ∃ (M : List Int) (p' : List U), PoolU p' ∧ M.Perm L ∧ V_law_shuffled [.lst p, .tup (L.map .int)] = .ok (.tup (M.map .int)) false (.lst p') := by
  have len2 := rgL_len 0 L.length
  obtain ⟨M, p', v', hp', pm, e⟩ := shuf_loop (some (.tup (L.map .int), .bor)) (rgL 0 L.length) L [] p none hp (by omega) (by simp; omega)
  rw [List.nil_append] at pm
  have hn : (rgL 0 L.length).length < 1000000 := by omega
  have s1 : smallI (L.length : Int) = true := smallI_i (by omega) (by omega)
  refine ⟨M, p', hp', pm, ?_⟩
  rw [List.map_nil] at e
  simp [V_law_shuffled, runV1, vb_law_shuffled, s1, hn, e]
theorem letters2_loop (size st : Int) (s1 : 0 ≤ size) (s2 : size ≤ 100000) (t1 : 1 ≤ st) (t2 : st ≤ 3) : ∀ (m : Nat) (f : List Bool) (p : List U), PoolU p → size - f.length < m ∧ 0 < m → f.length ≤ size + 3 → ∃ (f' : List Bool) (p' : List U), PoolU p' ∧ size ≤ f'.length ∧ f'.length ≤ size + 3 ∧
    whV vt_law_letters_v2_1 vl_law_letters_v2_1 m [some (.lst p, .io), some (.int size, .bor), some (.int st, .shr), some (.str (wd f), .shr)] = .nx [some (.lst p', .io), some (.int size, .bor), some (.int st, .shr), some (.str (wd f'), .shr)]
  | 0, f, p, hp, hm, hf => by
    omega
  | m + 1, f, p, hp, hm, hf => by
    have lf : f.length ≤ 16777216 := by omega
    by_cases c : (f.length : Int) < size
    · obtain ⟨r, p1, hp1, r0, r1, e1⟩ := draw_V2 (k := 2) hp (by decide) (by decide)
      obtain ⟨n, p2, hp2, n0, n1, e2⟩ := draw_V2 (k := st) hp1 (by omega) (by omega)
      obtain ⟨t, et⟩ := letter_V r0 r1
      have hlen : ((List.replicate (1 + n).toNat [t]).flatten).length = (1 + n).toNat := by simp
      obtain ⟨f', p', hp', g1, g2, e⟩ := letters2_loop size st s1 s2 t1 t2 m (f ++ (List.replicate (1 + n).toNat [t]).flatten) p2 hp2 (by rw [List.length_append, hlen]; omega) (by rw [List.length_append, hlen]; omega)
      refine ⟨f', p', hp', g1, g2, ?_⟩
      refine (whV_step (su1 := [some (.lst p, .io), some (.int size, .bor), some (.int st, .shr), some (.str (wd f), .shr)]) ?_ ?_).trans e
      · simp [vt_law_letters_v2_1, lf, c]
      · have b1 : (kd t).length ≤ 1000 := by cases t <;> decide
        have b2 : -1000 ≤ 1 + n ∧ 1 + n ≤ 1000 := by omega
        have b3 : f.length + (1 + n).toNat ≤ 16777216 := by omega
        have m1 := wd_mul [t] (1 + n)
        rw [wd_one] at m1
        simp [vl_law_letters_v2_1, e1, e2, et, b1, b2, m1, b3]
    · exact ⟨f, p, hp, by omega, hf, whV_end (by simp [vt_law_letters_v2_1, lf, c])⟩
theorem letters2_V {p : List U} {size : Int} (hp : PoolU p) (h0 : 0 ≤ size) (h1 : size ≤ 100000) : ∃ (w : List Bool) (p' : List U), PoolU p' ∧ (w.length : Int) = size ∧ V_law_letters_v2 [.lst p, .int size] = .ok (.str (wd w)) false (.lst p') := by
  obtain ⟨st, p2, hp2, n0, n1, e2⟩ := draw_V2 (k := 3) hp (by decide) (by decide)
  obtain ⟨f', p', hp', g1, g2, e⟩ := letters2_loop size (1 + st) (by omega) (by omega) (by omega) (by omega) fuel [] p2 hp2 (by rw [fuel_eq]; simp; omega) (by simp; omega)
  have lf : f'.length ≤ 16777216 := by omega
  have cc : cutL f' none (some size) = f'.take size.toNat := by
    have := cut_to f' size.toNat
    rwa [show ((size.toNat : Nat) : Int) = size by omega] at this
  refine ⟨f'.take size.toNat, p', hp', by rw [List.length_take]; omega, ?_⟩
  rw [wd_nil] at e
  simp [V_law_letters_v2, runV1, vb_law_letters_v2, e2, vWhile, e, lf, cc]
theorem atI_ints {L : List Int} {r : Int} (h0 : 0 ≤ r) (h1 : r < L.length) : ∃ x ∈ L, atI (L.map U.int) r = some (.int x) := by
  have hk : r.toNat < L.length := by omega
  refine ⟨L[r.toNat], List.getElem_mem hk, ?_⟩
  have e1 : (L.map U.int)[r.toNat]? = some (.int (L[r.toNat]'hk)) := by rw [List.getElem?_map, List.getElem?_eq_getElem hk]; rfl
  have := atI_nat e1
  rwa [show ((r.toNat : Nat) : Int) = r by omega] at this
theorem length_V {p : List U} {n : Int} (hp : PoolU p) (h0 : 1 ≤ n) (h1 : n ≤ 12) : ∃ (m : Int) (p' : List U), PoolU p' ∧ 0 ≤ m ∧ m ≤ 400 ∧ V_law_length_v2 [.lst p, .int n] = .ok (.int m) false (.lst p') := by
  obtain ⟨d1, p1, hp1, a0, a1, e1⟩ := draw_V2 (k := 31) hp (by decide) (by decide)
  obtain ⟨d2, p2, hp2, b0, b1, e2⟩ := draw_V2 (k := 401) hp1 (by decide) (by decide)
  obtain ⟨d3, p3, hp3, c0, c1, e3⟩ := draw_V2 (k := 8) hp2 (by decide) (by decide)
  obtain ⟨x, hx, ex⟩ := atI_ints (L := [0, if n - 2 > 0 then n - 2 else 0, n - 1, n, n + 1, d1, d2, 400]) c0 (by simpa using c1)
  refine ⟨x, p3, hp3, ?_, ?_, ?_⟩
  · simp only [List.mem_cons, List.not_mem_nil, or_false] at hx
    split at hx <;> omega
  · simp only [List.mem_cons, List.not_mem_nil, or_false] at hx
    split at hx <;> omega
  · simp at ex
    simp [V_law_length_v2, runV1, vb_law_length_v2, e1, e2, e3, ex]
/-- the last letters that matter -/
def lastW (n : Int) (w : List Bool) : List Bool := w.drop (w.length + 1 - n.toNat)
theorem cut_last {n : Int} (w : List Bool) (h0 : 1 ≤ n) : cutL w (some (if 0 < (w.length : Int) - n + 1 then (w.length : Int) - n + 1 else 0)) none = lastW n w := by
  unfold lastW
  by_cases c : 0 < (w.length : Int) - n + 1
  · rw [if_pos c]
    have := cut_from w (w.length + 1 - n.toNat)
    rwa [show ((w.length + 1 - n.toNat : Nat) : Int) = (w.length : Int) - n + 1 by omega] at this
  · rw [if_neg c, show w.length + 1 - n.toNat = 0 by omega]
    exact cut_from w 0
theorem law_last_V {w : List Bool} {n : Int} (hw : w.length ≤ 100000) (h0 : 1 ≤ n) : V_law_last [.str (wd w), .int n] = .ok (.str (wd (lastW n w))) false .non := by
  have lw : w.length ≤ 16777216 := by omega
  have c := cut_last w h0
  simp [V_law_last, runV, vb_law_last, lw, c]
theorem last_letters_V {w : List Bool} {n : Int} (hw : w.length ≤ 100000) (h0 : 1 ≤ n) : V_last_letters [.str (wd w), .int n] = .ok (.str (wd (lastW n w))) false .non := law_last_V hw h0
theorem check_size_V {n : Int} (h0 : 1 ≤ n) (h1 : n ≤ 12) : V_check_size [.int n] = .ok .non false .non := by
  simp [V_check_size, runV, vb_check_size, is_integer_V, h0, h1]
theorem shortest_V {w : List Bool} {n : Int} (hw : w.length ≤ 400) (h0 : 1 ≤ n) (h1 : n ≤ 12) : V_shortest [.str (wd w), .int n] = .ok (.str (wd (lastW n w))) false .non := by
  simp [V_shortest, runV, vb_shortest, check_word_V hw, check_size_V h0 h1, last_letters_V (w := w) (by omega) h0]
theorem lastW_len {n : Int} (w : List Bool) : (lastW n w).length ≤ w.length := by unfold lastW; rw [List.length_drop]; omega
theorem lastW_lastW {n : Int} (w : List Bool) (h0 : 1 ≤ n) : lastW n (lastW n w) = lastW n w := by
  unfold lastW
  rw [List.length_drop, show w.length - (w.length + 1 - n.toNat) + 1 - n.toNat = 0 by omega, List.drop_zero]
theorem after_lastW {L : List Int} {n : Int} (nd : L.Nodup) (h0 : 1 ≤ n) (hl : (L.length : Int) = n) (w : List Bool) : afterL w L = afterL (lastW n w) L := by
  rw [after_last nd (by omega) w, show L.length = n.toNat by omega]
  rfl
theorem for_inv {g : VG} {b : VS} (Inv : US → Prop) : ∀ (xs : List U) (su : US), (∀ x ∈ xs, ∀ su, Inv su → ∃ su1 su2, g x su = some su1 ∧ b su1 = .nx su2 ∧ Inv su2) → Inv su → ∃ su', forV g b xs su = .nx su' ∧ Inv su'
  | [], su, _, h0 => ⟨su, rfl, h0⟩
  | x :: r, su, h, h0 => by
    obtain ⟨su1, su2, e1, e2, i⟩ := h x List.mem_cons_self su h0
    obtain ⟨su', e, i'⟩ := for_inv Inv r su2 (fun y hy => h y (List.mem_cons_of_mem _ hy)) i
    exact ⟨su', (for_step e1 e2).trans e, i'⟩
def cellsM (ns : List Int) (N : Int) : Int := if 2 < (if (ns.length : Int) < N then (ns.length : Int) else N) then (if (ns.length : Int) < N then (ns.length : Int) else N) else 2
theorem cellsM_le {ns : List Int} {N : Int} (h0 : 2 ≤ N) : 2 ≤ cellsM ns N ∧ cellsM ns N ≤ N := by
  unfold cellsM
  split <;> (try split) <;> omega
theorem law_row_h {su : US} {i : Nat} {ns : List Int} {N : Int} {E : VE} (h0 : 2 ≤ N) (h1 : N ≤ 900) (hs : su[0]? = some (some (.scr ns, .bor))) (hw : su.set i none = su) (hi : su[i]? = some none)
    (h : ∀ x : Int, 0 ≤ x → x < 1000 → E (su.set i (some (.int x, .shr))) = .ok (.bl true, .shr) (su.set i (some (.int x, .shr)))) :
    vBlt .all [vLc (vRange rng1U [vBlt .max [vLit (.int 2), vBlt .min [vLit (.int N), vBlt .len [vVar 0]]]]) (vgNm i) vYes E [i]] su = .ok (.bl true, .shr) su := by
  have z := cellsM_le (ns := ns) h0
  have sm : smallI (cellsM ns N) = true := smallI_i (by omega) (by omega)
  have len := rgL_len 0 (cellsM ns N)
  have hn : (rgL 0 (cellsM ns N)).length < 1000000 := by omega
  have e := lc_ib (E := E) (f := fun _ => true) hw (rgL 0 (cellsM ns N)) fun x hx => h x (rgL_mem hx).1 (by have := (rgL_mem hx).2; omega)
  have ez : (if 2 < (if (ns.length : Int) < N then (ns.length : Int) else N) then (if (ns.length : Int) < N then (ns.length : Int) else N) else 2) = cellsM ns N := rfl
  have gd : su.set i none = su := hw
  simp [hs, ez, sm, hn, hw, hi]
  rw [e]
  simp [gd, hi, -List.map_map, -List.map_const]
end
end PyI
-- PvR
namespace PyI
noncomputable section
open PySem PySem.Spec L2
/-! ### words that are too short -/
def rel' (b : Bool) (x y : Int) : Prop := x ≠ y ∧ decide (x < y) = b
theorem em_stay (t : Bool) (k : Int) : ∀ r : List Int, (∀ x ∈ r, decide (k < x) ≠ t) → em t k r = r
  | [], _ => rfl
  | p :: r, h => by
    rw [em_cons, if_neg (h p List.mem_cons_self), em_stay t k r fun x hx => h x (List.mem_cons_of_mem _ hx)]
theorem em_mono (t b : Bool) : ∀ (r : List Int) (k : Int), (k :: r).Pairwise (rel' b) → (em t k r).Sublist (k :: r)
  | [], k, _ => List.nil_sublist _
  | p :: r, k, h => by
    rw [List.pairwise_cons] at h
    by_cases c : t = b
    · rw [em_cons, if_pos ((h.1 p List.mem_cons_self).2.trans c.symm)]
      exact (em_mono t b r p h.2).cons₂ k
    · rw [em_stay]
      · exact List.sublist_cons_self _ _
      · intro x hx e
        exact c (e.symm.trans (h.1 x hx).2)
theorem after_mono {L : List Int} {b : Bool} (nd : L.Nodup) (pw : L.Pairwise (rel' b)) : ∀ (wr : List Bool), wr.length < L.length → ∃ K : List Int, afterL wr.reverse L = K ++ tailR wr L ∧ K.length + wr.length = L.length ∧ K.Pairwise (rel' b)
  | [], _ => ⟨L, by simp [tailR], by simp, pw⟩
  | t :: w, h => by
    simp only [List.length_cons] at h
    obtain ⟨K, e, hl, pw⟩ := after_mono nd pw w (by omega)
    have pk : (K ++ tailR w L).Perm L := by rw [← e]; exact afterL_perm _ _
    have pr := rem_tail_perm w L (by omega)
    have pK : K.Perm (remR w L) := (List.perm_append_right_iff _).mp (pk.trans pr.symm)
    match K, hl, e, pK, pw with
    | [], hl, _, _, _ => simp at hl; omega
    | k :: K', hl, e, pK, pw =>
      obtain ⟨c1, c2⟩ := tail_chair t w L nd (by omega)
      rw [← ext_perm pK (by simp), ← fin_ext] at c1 c2
      refine ⟨em t k K', ?_, by rw [em_len]; simp at hl ⊢; omega, pw.sublist (em_mono t b K' k pw)⟩
      rw [List.reverse_cons, afterL_app, e]
      show passG t k (K' ++ tailR w L) = _
      obtain ⟨a1, a2⟩ := em_app t K' (tailR w L) k
      rw [pass_em, a1, a2, c1, c2, show tailR (t :: w) L = tailR w (L.erase (ext t L)) ++ [ext t L] from rfl]
      simp
theorem after_short {L M : List Int} (nL : L.Nodup) (nM : M.Nodup) (p1 : L.Pairwise (rel' true)) (p2 : M.Pairwise (rel' false)) (hl : L.length = M.length) {w : List Bool} (h : w.length + 1 < L.length) : afterL w L ≠ afterL w M := by
  obtain ⟨K, e1, l1, q1⟩ := after_mono nL p1 w.reverse (by simp; omega)
  obtain ⟨K', e2, l2, q2⟩ := after_mono nM p2 w.reverse (by simp; omega)
  rw [List.reverse_reverse] at e1 e2
  rw [List.length_reverse] at l1 l2
  intro e
  rw [e1, e2] at e
  have ek : K = K' := (List.append_inj e (by omega)).1
  subst ek
  match K, l1, q1, q2 with
  | [], l1, _, _ => simp at l1; omega
  | [a], l1, _, _ => simp at l1; omega
  | a :: b :: r, _, q1, q2 =>
    have z1 := ((List.pairwise_cons.mp q1).1 b List.mem_cons_self).2
    have z2 := ((List.pairwise_cons.mp q2).1 b List.mem_cons_self).2
    rw [z1] at z2
    exact absurd z2 (by decide)
/-! ### lists of rows -/
def tupI (l : List Int) : U := .tup (l.map .int)
theorem lc_gg {α : Type} {E : VE} {i : Nat} {su : US} (g f : α → U) (hw : su.set i none = su) : ∀ xs : List α, (∀ x ∈ xs, E (su.set i (some (g x, .shr))) = .ok (f x, .shr) (su.set i (some (g x, .shr)))) →
    lcV (vgNm i) vYes E [i] (xs.map g) su = .ok (xs.map f) su
  | [], _ => rfl
  | x :: r, h => by
    have e := lc_gg g f hw r fun y hy => h y (List.mem_cons_of_mem _ hy)
    have h2 := h x List.mem_cons_self
    rw [List.map_cons, lc_consV]
    simp only [g_nmV, vYes, oo_ok, rg_ok, h2, esc_shr, wipe_consU, wipe_nilU, List.set_set, hw, e, List.map_cons, if_true]
end
end PyI
-- K01
namespace PyI
noncomputable section
open PySem PySem.Spec L2
def b_is_row (G_is_height : List D → DH → Res D) : MS := (mSeq (mIfS (mOrT [mNotT (mTru (mBlt .isinst [mVar 0, mLit (.ty "tuple")])), mNotT (mB (mChain (opC .LtE) (opC .LtE) (mLit (.int 1)) (mBlt .len [mVar 0]) (mLit (.int 12))))]) (mSeq (mRet (mLit (.bl false))) mNext) mNext) (mSeq (mRet (mAndE [mBlt .all [mLc (iPlain (mVar 0)) (gNm 1) tYesM (mCallK G_is_height 1 1 0 [0] [mVar 1] []) [1]], mBin (opC .Eq) (mLenSet (mVar 0)) (mBlt .len [mVar 0])])) mNext))
def vc_is_row_1 : VE := vCall V_is_height [0] [vVar 1]
def vb_is_row : VS := vSeq (vIfS (vOrT [vNotT (vTru (vBlt .isinst [vVar 0, vLit (.ty "tuple")])), vNotT (vB (vChain (uC .LtE) (uC .LtE) (vLit (.int 1)) (vBlt .len [vVar 0]) (vLit (.int 12))))]) (vSeq (vRet (vLit (.bl false))) vNext) vNext) (vSeq (vRet (vAndE [vBlt .all [vLc (vPlain (vVar 0)) (vgNm 1) vYes vc_is_row_1 [1]], vBin (uC .Eq) (vLenSet (vVar 0)) (vBlt .len [vVar 0])])) vNext)
def V_is_row : VF := runV vb_is_row 1 2
theorem sim_is_row {G_is_height : List D → DH → Res D} (f_is_height : FSim G_is_height V_is_height) : SimS (b_is_row G_is_height) vb_is_row := sims_seq (sims_if (sim_orT (.cons (sim_notT (sim_tru (sim_blt (.cons sim_var (.cons (sim_lit fun _ _ => .ty _) .nil))))) (.cons (sim_notT (sim_B (sim_chain (osim_C _) (osim_C _) (sim_lit fun _ _ => .int _) (sim_blt (.cons sim_var .nil)) (sim_lit fun _ _ => .int _)))) .nil))) (sims_seq (sims_ret (sim_lit fun _ _ => .bl _)) sims_next) sims_next) (sims_seq (sims_ret (sim_andE (.cons (sim_blt (.cons (sim_lc (simi_plain sim_var) simg_nm (keep_nm (by decide)) sim_yes (sim_call f_is_height rfl (.cons sim_var .nil) rfl rfl)) .nil)) (.cons (sim_bin (osim_C _) (sim_lenSet sim_var) (sim_blt (.cons sim_var .nil))) .nil)))) sims_next)
def b_law_is_row : MS := (mSeq (mIfS (mOrT [mNotT (mTru (mBlt .isinst [mVar 0, mLit (.ty "tuple")])), mNotT (mB (mChain (opC .Lt) (opC .Lt) (mLit (.int 0)) (mBlt .len [mVar 0]) (mLit (.int 13))))]) (mSeq (mRet (mLit (.bl false))) mNext) mNext) (mSeq (mFor (iEnumM (mVar 0)) (gTp [gNm 1, gNm 2]) (mSeq (mIfS (mOrT [mNotT (mTru (mBlt .isinst [mVar 2, mLit (.ty "int")])), mTru (mBlt .isinst [mVar 2, mLit (.ty "bool")]), mNotT (mB (mChain (opC .Lt) (opC .Lt) (mLit (.int 0)) (mVar 2) (mLit (.int 1000)))), mB (mBin (opC .In) (mVar 2) (mSl (mVar 0) oNone (mPart (mVar 1))))]) (mSeq (mRet (mLit (.bl false))) mNext) mNext) mNext)) (mSeq (mRet (mLit (.bl true))) mNext)))
def vl_law_is_row_1 : VS := vSeq (vIfS (vOrT [vNotT (vTru (vBlt .isinst [vVar 2, vLit (.ty "int")])), vTru (vBlt .isinst [vVar 2, vLit (.ty "bool")]), vNotT (vB (vChain (uC .Lt) (uC .Lt) (vLit (.int 0)) (vVar 2) (vLit (.int 1000)))), vB (vBin (uC .In) (vVar 2) (vSl (vVar 0) vNone (vPart (vVar 1))))]) (vSeq (vRet (vLit (.bl false))) vNext) vNext) vNext
def vb_law_is_row : VS := vSeq (vIfS (vOrT [vNotT (vTru (vBlt .isinst [vVar 0, vLit (.ty "tuple")])), vNotT (vB (vChain (uC .Lt) (uC .Lt) (vLit (.int 0)) (vBlt .len [vVar 0]) (vLit (.int 13))))]) (vSeq (vRet (vLit (.bl false))) vNext) vNext) (vSeq (vFor (vEnum (vVar 0)) (vgTp [vgNm 1, vgNm 2]) vl_law_is_row_1) (vSeq (vRet (vLit (.bl true))) vNext))
def V_law_is_row : VF := runV vb_law_is_row 1 3
theorem sim_law_is_row : SimS (b_law_is_row) vb_law_is_row := sims_seq (sims_if (sim_orT (.cons (sim_notT (sim_tru (sim_blt (.cons sim_var (.cons (sim_lit fun _ _ => .ty _) .nil))))) (.cons (sim_notT (sim_B (sim_chain (osim_C _) (osim_C _) (sim_lit fun _ _ => .int _) (sim_blt (.cons sim_var .nil)) (sim_lit fun _ _ => .int _)))) .nil))) (sims_seq (sims_ret (sim_lit fun _ _ => .bl _)) sims_next) sims_next) (sims_seq (sims_for (simi_enum sim_var) (simg_tp (.cons simg_nm (.cons simg_nm .nil))) (sims_seq (sims_if (sim_orT (.cons (sim_notT (sim_tru (sim_blt (.cons sim_var (.cons (sim_lit fun _ _ => .ty _) .nil))))) (.cons (sim_tru (sim_blt (.cons sim_var (.cons (sim_lit fun _ _ => .ty _) .nil)))) (.cons (sim_notT (sim_B (sim_chain (osim_C _) (osim_C _) (sim_lit fun _ _ => .int _) sim_var (sim_lit fun _ _ => .int _)))) (.cons (sim_B (sim_bin (osim_C _) sim_var (sim_sl sim_var sim_none (sim_part sim_var)))) .nil))))) (sims_seq (sims_ret (sim_lit fun _ _ => .bl _)) sims_next) sims_next) sims_next)) (sims_seq (sims_ret (sim_lit fun _ _ => .bl _)) sims_next))
def b_law_bent (G_law_draw : List D → DH → Res D) : MS := (mSeq (mPar [4, 5] [mCallK G_law_draw 2 2 0 [0, 1] [mVar 0, mBlt .len [mVar 1]] [], mCallK G_law_draw 2 2 0 [0, 1] [mVar 0, mLit (.int 7)] []]) (mSeq (mAsg (mLst [mLit (.int 0), mLit (.int 1000), mBin (opB .Sub) (mLit (.int 0)) (mLit (.int 1)), mLit (.bl true), mLit (.bl false), mLit .non, mLit (.str "7"), mTup [mLit (.int 7)], mLst [], mDict0, mBin (opB .Pow) (mLit (.int 10)) (mLit (.int 30)), mBin opI (mVar 1) (mLit (.int 0)), mLit (.int 999), mLit (.int 1)]) (gNm 2)) (mSeq (mIfS (mB (mBin (opC .Eq) (mVar 5) (mLit (.int 0)))) (mSeq (mAsg (mLst [mLit .non, mLit (.int 0), mLit (.bl true), mLit (.str "row"), mTup [], mLst [], mDict0, mBlt .list [mVar 1], mTup [mVar 1], mTup [mTup []], mLit (.int 7), mTup [mLit .non]]) (gNm 6)) (mSeq (mRet (mBin opI (mVar 6) (mCallK G_law_draw 2 2 0 [0, 1] [mVar 0, mLit (.int 12)] []))) mNext)) mNext) (mSeq (mIfS (mB (mBin (opC .Eq) (mVar 5) (mLit (.int 1)))) (mSeq (mRet (mBin opI (mLst [mTupRg [mLit (.int 1), mLit (.int 14)], mTupRg [mLit (.int 1), mLit (.int 13)], mBin (opB .Mult) (mTup [mLit (.bl true)]) (mLit (.int 13)), mBin (opB .Mult) (mVar 1) (mLit (.int 13))]) (mCallK G_law_draw 2 2 0 [0, 1] [mVar 0, mLit (.int 4)] []))) mNext) mNext) (mSeq (mIfS (mB (mBin (opC .Eq) (mVar 5) (mLit (.int 2)))) (mSeq (mRet (mBin (opB .Add) (mVar 1) (mTup [mBin opI (mVar 1) (mVar 4)]))) mNext) mNext) (mSeq (mIfS (mB (mBin (opC .Eq) (mVar 5) (mLit (.int 3)))) (mSeq (mRet (mVar 1)) mNext) mNext) (mSeq (mAsg (mBin (opB .Add) (mBin (opB .Add) (mSl (mVar 1) oNone (mPart (mVar 4))) (mTup [mBin opI (mVar 2) (mCallK G_law_draw 2 2 0 [0, 1] [mVar 0, mLit (.int 14)] [])])) (mSl (mVar 1) (mPart (mBin (opB .Add) (mVar 4) (mLit (.int 1)))) oNone)) (gNm 3)) (mSeq (mIfS (mB (mBin (opC .Eq) (mVar 5) (mLit (.int 4)))) (mSeq (mAsg (mCallK G_law_draw 2 2 0 [0, 1] [mVar 0, mBlt .len [mVar 1]] []) (gNm 4)) (mSeq (mRet (mBin (opB .Add) (mBin (opB .Add) (mSl (mVar 3) oNone (mPart (mVar 4))) (mTup [mBin opI (mVar 2) (mCallK G_law_draw 2 2 0 [0, 1] [mVar 0, mLit (.int 14)] [])])) (mSl (mVar 3) (mPart (mBin (opB .Add) (mVar 4) (mLit (.int 1)))) oNone))) mNext)) mNext) (mSeq (mRet (mVar 3)) mNext)))))))))
def vb_law_bent : VS := vSeq (vPar [4, 5] [vCall1 V_law_draw 0 [vBlt .len [vVar 1]], vCall1 V_law_draw 0 [vLit (.int 7)]]) (vSeq (vAsg (vLst [vLit (.int 0), vLit (.int 1000), vBin (uB .Sub) (vLit (.int 0)) (vLit (.int 1)), vLit (.bl true), vLit (.bl false), vLit .non, vLit (.str "7"), vTup [vLit (.int 7)], vLst [], vDict0, vBin (uB .Pow) (vLit (.int 10)) (vLit (.int 30)), vBin uI (vVar 1) (vLit (.int 0)), vLit (.int 999), vLit (.int 1)]) 2) (vSeq (vIfS (vB (vBin (uC .Eq) (vVar 5) (vLit (.int 0)))) (vSeq (vAsg (vLst [vLit .non, vLit (.int 0), vLit (.bl true), vLit (.str "row"), vTup [], vLst [], vDict0, vBlt .list [vVar 1], vTup [vVar 1], vTup [vTup []], vLit (.int 7), vTup [vLit .non]]) 6) (vSeq (vRet (vBin uI (vVar 6) (vCall1 V_law_draw 0 [vLit (.int 12)]))) vNext)) vNext) (vSeq (vIfS (vB (vBin (uC .Eq) (vVar 5) (vLit (.int 1)))) (vSeq (vRet (vBin uI (vLst [vTupRg [vLit (.int 1), vLit (.int 14)], vTupRg [vLit (.int 1), vLit (.int 13)], vBin (uB .Mult) (vTup [vLit (.bl true)]) (vLit (.int 13)), vBin (uB .Mult) (vVar 1) (vLit (.int 13))]) (vCall1 V_law_draw 0 [vLit (.int 4)]))) vNext) vNext) (vSeq (vIfS (vB (vBin (uC .Eq) (vVar 5) (vLit (.int 2)))) (vSeq (vRet (vBin (uB .Add) (vVar 1) (vTup [vBin uI (vVar 1) (vVar 4)]))) vNext) vNext) (vSeq (vIfS (vB (vBin (uC .Eq) (vVar 5) (vLit (.int 3)))) (vSeq (vRet (vVar 1)) vNext) vNext) (vSeq (vAsg (vBin (uB .Add) (vBin (uB .Add) (vSl (vVar 1) vNone (vPart (vVar 4))) (vTup [vBin uI (vVar 2) (vCall1 V_law_draw 0 [vLit (.int 14)])])) (vSl (vVar 1) (vPart (vBin (uB .Add) (vVar 4) (vLit (.int 1)))) vNone)) 3) (vSeq (vIfS (vB (vBin (uC .Eq) (vVar 5) (vLit (.int 4)))) (vSeq (vAsg (vCall1 V_law_draw 0 [vBlt .len [vVar 1]]) 4) (vSeq (vRet (vBin (uB .Add) (vBin (uB .Add) (vSl (vVar 3) vNone (vPart (vVar 4))) (vTup [vBin uI (vVar 2) (vCall1 V_law_draw 0 [vLit (.int 14)])])) (vSl (vVar 3) (vPart (vBin (uB .Add) (vVar 4) (vLit (.int 1)))) vNone))) vNext)) vNext) (vSeq (vRet (vVar 3)) vNext))))))))
def V_law_bent : VF := runV1 vb_law_bent 2 7
theorem sim_law_bent {G_law_draw : List D → DH → Res D} (f_law_draw : FSim1 G_law_draw V_law_draw) : SimS (b_law_bent G_law_draw) vb_law_bent := sims_seq (sims_par (.cons (sim_call1 f_law_draw rfl (.cons (sim_blt (.cons sim_var .nil)) .nil) rfl rfl) (.cons (sim_call1 f_law_draw rfl (.cons (sim_lit fun _ _ => .int _) .nil) rfl rfl) .nil))) (sims_seq (sims_asg (sim_lst (.cons (sim_lit fun _ _ => .int _) (.cons (sim_lit fun _ _ => .int _) (.cons (sim_bin (osim_B _) (sim_lit fun _ _ => .int _) (sim_lit fun _ _ => .int _)) (.cons (sim_lit fun _ _ => .bl _) (.cons (sim_lit fun _ _ => .bl _) (.cons (sim_lit fun _ _ => .non) (.cons (sim_lit fun _ _ => .str _) (.cons (sim_tup (.cons (sim_lit fun _ _ => .int _) .nil)) (.cons (sim_lst .nil) (.cons sim_dict0 (.cons (sim_bin (osim_B _) (sim_lit fun _ _ => .int _) (sim_lit fun _ _ => .int _)) (.cons (sim_bin osim_I sim_var (sim_lit fun _ _ => .int _)) (.cons (sim_lit fun _ _ => .int _) (.cons (sim_lit fun _ _ => .int _) .nil)))))))))))))))) (sims_seq (sims_if (sim_B (sim_bin (osim_C _) sim_var (sim_lit fun _ _ => .int _))) (sims_seq (sims_asg (sim_lst (.cons (sim_lit fun _ _ => .non) (.cons (sim_lit fun _ _ => .int _) (.cons (sim_lit fun _ _ => .bl _) (.cons (sim_lit fun _ _ => .str _) (.cons (sim_tup .nil) (.cons (sim_lst .nil) (.cons sim_dict0 (.cons (sim_blt (.cons sim_var .nil)) (.cons (sim_tup (.cons sim_var .nil)) (.cons (sim_tup (.cons (sim_tup .nil) .nil)) (.cons (sim_lit fun _ _ => .int _) (.cons (sim_tup (.cons (sim_lit fun _ _ => .non) .nil)) .nil)))))))))))))) (sims_seq (sims_ret (sim_bin osim_I sim_var (sim_call1 f_law_draw rfl (.cons (sim_lit fun _ _ => .int _) .nil) rfl rfl))) sims_next)) sims_next) (sims_seq (sims_if (sim_B (sim_bin (osim_C _) sim_var (sim_lit fun _ _ => .int _))) (sims_seq (sims_ret (sim_bin osim_I (sim_lst (.cons (sim_tupRg (.cons (sim_lit fun _ _ => .int _) (.cons (sim_lit fun _ _ => .int _) .nil))) (.cons (sim_tupRg (.cons (sim_lit fun _ _ => .int _) (.cons (sim_lit fun _ _ => .int _) .nil))) (.cons (sim_bin (osim_B _) (sim_tup (.cons (sim_lit fun _ _ => .bl _) .nil)) (sim_lit fun _ _ => .int _)) (.cons (sim_bin (osim_B _) sim_var (sim_lit fun _ _ => .int _)) .nil))))) (sim_call1 f_law_draw rfl (.cons (sim_lit fun _ _ => .int _) .nil) rfl rfl))) sims_next) sims_next) (sims_seq (sims_if (sim_B (sim_bin (osim_C _) sim_var (sim_lit fun _ _ => .int _))) (sims_seq (sims_ret (sim_bin (osim_B _) sim_var (sim_tup (.cons (sim_bin osim_I sim_var sim_var) .nil)))) sims_next) sims_next) (sims_seq (sims_if (sim_B (sim_bin (osim_C _) sim_var (sim_lit fun _ _ => .int _))) (sims_seq (sims_ret sim_var) sims_next) sims_next) (sims_seq (sims_asg (sim_bin (osim_B _) (sim_bin (osim_B _) (sim_sl sim_var sim_none (sim_part sim_var)) (sim_tup (.cons (sim_bin osim_I sim_var (sim_call1 f_law_draw rfl (.cons (sim_lit fun _ _ => .int _) .nil) rfl rfl)) .nil))) (sim_sl sim_var (sim_part (sim_bin (osim_B _) sim_var (sim_lit fun _ _ => .int _))) sim_none))) (sims_seq (sims_if (sim_B (sim_bin (osim_C _) sim_var (sim_lit fun _ _ => .int _))) (sims_seq (sims_asg (sim_call1 f_law_draw rfl (.cons (sim_blt (.cons sim_var .nil)) .nil) rfl rfl)) (sims_seq (sims_ret (sim_bin (osim_B _) (sim_bin (osim_B _) (sim_sl sim_var sim_none (sim_part sim_var)) (sim_tup (.cons (sim_bin osim_I sim_var (sim_call1 f_law_draw rfl (.cons (sim_lit fun _ _ => .int _) .nil) rfl rfl)) .nil))) (sim_sl sim_var (sim_part (sim_bin (osim_B _) sim_var (sim_lit fun _ _ => .int _))) sim_none))) sims_next)) sims_next) (sims_seq (sims_ret sim_var) sims_next))))))))
def b_law_right (G_is_row G_law_row G_law_is_row G_law_bent : List D → DH → Res D) : MS := (mSeq (mAsg (mCallK G_law_row 3 3 0 [0, 1, 2] [mVar 0, mLit (.int 1), mLit (.int 12)] []) (gNm 1)) (mSeq (mIfS (mOrT [mB (mBin (opC .IsNot) (mCallK G_is_row 1 1 0 [0] [mVar 1] []) (mLit (.bl true))), mB (mBin (opC .IsNot) (mCallK G_is_row 1 1 0 [0] [mBlt .list [mVar 1]] []) (mLit (.bl false)))]) (mSeq (mRet (mLit (.bl false))) mNext) mNext) (mSeq (mFor (iRange rngOf1 [mLit (.int 7)]) (gNm 2) (mSeq (mAsg (mCallK G_law_bent 2 2 0 [0, 1] [mVar 0, mVar 1] []) (gNm 3)) (mSeq (mAsg (mCallK G_law_is_row 1 1 0 [0] [mVar 3] []) (gNm 4)) (mSeq (mFor (iPlain (mLst [mCallK G_is_row 1 1 0 [0] [mVar 3] [], mCallK G_is_row 1 0 1 [0] [] [mVar 3]])) (gNm 5) (mSeq (mIfS (mOrT [mNotT (mTru (mBlt .isinst [mVar 5, mLit (.ty "bool")])), mB (mBin (opC .NotEq) (mVar 5) (mVar 4))]) (mSeq (mRet (mLit (.bl false))) mNext) mNext) mNext)) mNext)))) (mSeq (mRet (mBin (opC .Is) (mCallK G_is_row 1 1 0 [0] [mVar 1] []) (mLit (.bl true)))) mNext))))
def vl_law_right_1 : VS := vSeq (vIfS (vOrT [vNotT (vTru (vBlt .isinst [vVar 5, vLit (.ty "bool")])), vB (vBin (uC .NotEq) (vVar 5) (vVar 4))]) (vSeq (vRet (vLit (.bl false))) vNext) vNext) vNext
def vl_law_right_2 : VS := vSeq (vAsg (vCall1 V_law_bent 0 [vVar 1]) 3) (vSeq (vAsg (vCall V_law_is_row [0] [vVar 3]) 4) (vSeq (vFor (vPlain (vLst [vCall V_is_row [0] [vVar 3], vCall V_is_row [0] [vVar 3]])) (vgNm 5) vl_law_right_1) vNext))
def vb_law_right : VS := vSeq (vAsg (vCall1 V_law_row 0 [vLit (.int 1), vLit (.int 12)]) 1) (vSeq (vIfS (vOrT [vB (vBin (uC .IsNot) (vCall V_is_row [0] [vVar 1]) (vLit (.bl true))), vB (vBin (uC .IsNot) (vCall V_is_row [0] [vBlt .list [vVar 1]]) (vLit (.bl false)))]) (vSeq (vRet (vLit (.bl false))) vNext) vNext) (vSeq (vFor (vRange rng1U [vLit (.int 7)]) (vgNm 2) vl_law_right_2) (vSeq (vRet (vBin (uC .Is) (vCall V_is_row [0] [vVar 1]) (vLit (.bl true)))) vNext)))
def V_law_right : VF := runV1 vb_law_right 1 6
theorem sim_law_right {G_is_row G_law_row G_law_is_row G_law_bent : List D → DH → Res D} (f_is_row : FSim G_is_row V_is_row) (f_law_row : FSim1 G_law_row V_law_row) (f_law_is_row : FSim G_law_is_row V_law_is_row) (f_law_bent : FSim1 G_law_bent V_law_bent) : SimS (b_law_right G_is_row G_law_row G_law_is_row G_law_bent) vb_law_right := sims_seq (sims_asg (sim_call1 f_law_row rfl (.cons (sim_lit fun _ _ => .int _) (.cons (sim_lit fun _ _ => .int _) .nil)) rfl rfl)) (sims_seq (sims_if (sim_orT (.cons (sim_B (sim_bin (osim_C _) (sim_call f_is_row rfl (.cons sim_var .nil) rfl rfl) (sim_lit fun _ _ => .bl _))) (.cons (sim_B (sim_bin (osim_C _) (sim_call f_is_row rfl (.cons (sim_blt (.cons sim_var .nil)) .nil) rfl rfl) (sim_lit fun _ _ => .bl _))) .nil))) (sims_seq (sims_ret (sim_lit fun _ _ => .bl _)) sims_next) sims_next) (sims_seq (sims_for (simi_range rgs1 (.cons (sim_lit fun _ _ => .int _) .nil)) simg_nm (sims_seq (sims_asg (sim_call1 f_law_bent rfl (.cons sim_var .nil) rfl rfl)) (sims_seq (sims_asg (sim_call f_law_is_row rfl (.cons sim_var .nil) rfl rfl)) (sims_seq (sims_for (simi_plain (sim_lst (.cons (sim_call f_is_row rfl (.cons sim_var .nil) rfl rfl) (.cons (sim_call f_is_row rfl (.cons sim_var .nil) rfl rfl) .nil)))) simg_nm (sims_seq (sims_if (sim_orT (.cons (sim_notT (sim_tru (sim_blt (.cons sim_var (.cons (sim_lit fun _ _ => .ty _) .nil))))) (.cons (sim_B (sim_bin (osim_C _) sim_var sim_var)) .nil))) (sims_seq (sims_ret (sim_lit fun _ _ => .bl _)) sims_next) sims_next) sims_next)) sims_next)))) (sims_seq (sims_ret (sim_bin (osim_C _) (sim_call f_is_row rfl (.cons sim_var .nil) rfl rfl) (sim_lit fun _ _ => .bl _))) sims_next)))
def b_law (G_is_row G_law_cell G_law_pool G_law_right : List D → DH → Res D) : MS := (mSeq (mIfS (mOrT [mB (mBin (opC .IsNot) (mCallK G_is_row 1 1 0 [0] [mTup [mLit (.int 999)]] []) (mLit (.bl true))), mB (mBin (opC .IsNot) (mCallK G_is_row 1 1 0 [0] [mTup [mLit (.int 1000)]] []) (mLit (.bl false))), mB (mBin (opC .IsNot) (mCallK G_is_row 1 1 0 [0] [mTup []] []) (mLit (.bl false)))]) (mSeq (mRet (mLit (.bl false))) mNext) mNext) (mSeq (mIfS (mOrT [mB (mBin (opC .IsNot) (mCallK G_is_row 1 1 0 [0] [mTup [mLit (.int 2), mLit (.int 1)]] []) (mLit (.bl true))), mB (mBin (opC .IsNot) (mCallK G_is_row 1 1 0 [0] [mTup [mLit (.int 2), mLit (.bl true)]] []) (mLit (.bl false))), mB (mBin (opC .IsNot) (mCallK G_is_row 1 1 0 [0] [mTup [mLit (.int 2), mLit (.int 1)]] []) (mLit (.bl true)))]) (mSeq (mRet (mLit (.bl false))) mNext) mNext) (mSeq (mRet (mBlt .all [mLc (iRange rngOf1 [mBlt .max [mLit (.int 2), mBlt .min [mBlt .len [mVar 0], mLit (.int 8)]]]) (gNm 1) tYesM (mCallK G_law_right 1 1 0 [0] [mCallK G_law_pool 1 1 0 [0] [mCallK G_law_cell 2 2 0 [0, 1] [mVar 0, mVar 1] []] []] []) [1]])) mNext)))
def vc_law_1 : VE := vCallT V_law_right (vCall V_law_pool [0] [vCall V_law_cell [0, 1] [vVar 0, vVar 1]])
def vb_law : VS := vSeq (vIfS (vOrT [vB (vBin (uC .IsNot) (vCall V_is_row [0] [vTup [vLit (.int 999)]]) (vLit (.bl true))), vB (vBin (uC .IsNot) (vCall V_is_row [0] [vTup [vLit (.int 1000)]]) (vLit (.bl false))), vB (vBin (uC .IsNot) (vCall V_is_row [0] [vTup []]) (vLit (.bl false)))]) (vSeq (vRet (vLit (.bl false))) vNext) vNext) (vSeq (vIfS (vOrT [vB (vBin (uC .IsNot) (vCall V_is_row [0] [vTup [vLit (.int 2), vLit (.int 1)]]) (vLit (.bl true))), vB (vBin (uC .IsNot) (vCall V_is_row [0] [vTup [vLit (.int 2), vLit (.bl true)]]) (vLit (.bl false))), vB (vBin (uC .IsNot) (vCall V_is_row [0] [vTup [vLit (.int 2), vLit (.int 1)]]) (vLit (.bl true)))]) (vSeq (vRet (vLit (.bl false))) vNext) vNext) (vSeq (vRet (vBlt .all [vLc (vRange rng1U [vBlt .max [vLit (.int 2), vBlt .min [vBlt .len [vVar 0], vLit (.int 8)]]]) (vgNm 1) vYes vc_law_1 [1]])) vNext))
def V_law : VF := runV vb_law 1 2
theorem sim_law {G_is_row G_law_cell G_law_pool G_law_right : List D → DH → Res D} (f_is_row : FSim G_is_row V_is_row) (f_law_cell : FSim G_law_cell V_law_cell) (f_law_pool : FSim G_law_pool V_law_pool) (f_law_right : FSim1 G_law_right V_law_right) : SimS (b_law G_is_row G_law_cell G_law_pool G_law_right) vb_law := sims_seq (sims_if (sim_orT (.cons (sim_B (sim_bin (osim_C _) (sim_call f_is_row rfl (.cons (sim_tup (.cons (sim_lit fun _ _ => .int _) .nil)) .nil) rfl rfl) (sim_lit fun _ _ => .bl _))) (.cons (sim_B (sim_bin (osim_C _) (sim_call f_is_row rfl (.cons (sim_tup (.cons (sim_lit fun _ _ => .int _) .nil)) .nil) rfl rfl) (sim_lit fun _ _ => .bl _))) (.cons (sim_B (sim_bin (osim_C _) (sim_call f_is_row rfl (.cons (sim_tup .nil) .nil) rfl rfl) (sim_lit fun _ _ => .bl _))) .nil)))) (sims_seq (sims_ret (sim_lit fun _ _ => .bl _)) sims_next) sims_next) (sims_seq (sims_if (sim_orT (.cons (sim_B (sim_bin (osim_C _) (sim_call f_is_row rfl (.cons (sim_tup (.cons (sim_lit fun _ _ => .int _) (.cons (sim_lit fun _ _ => .int _) .nil))) .nil) rfl rfl) (sim_lit fun _ _ => .bl _))) (.cons (sim_B (sim_bin (osim_C _) (sim_call f_is_row rfl (.cons (sim_tup (.cons (sim_lit fun _ _ => .int _) (.cons (sim_lit fun _ _ => .bl _) .nil))) .nil) rfl rfl) (sim_lit fun _ _ => .bl _))) (.cons (sim_B (sim_bin (osim_C _) (sim_call f_is_row rfl (.cons (sim_tup (.cons (sim_lit fun _ _ => .int _) (.cons (sim_lit fun _ _ => .int _) .nil))) .nil) rfl rfl) (sim_lit fun _ _ => .bl _))) .nil)))) (sims_seq (sims_ret (sim_lit fun _ _ => .bl _)) sims_next) sims_next) (sims_seq (sims_ret (sim_blt (.cons (sim_lc (simi_range rgs1 (.cons (sim_blt (.cons (sim_lit fun _ _ => .int _) (.cons (sim_blt (.cons (sim_blt (.cons sim_var .nil)) (.cons (sim_lit fun _ _ => .int _) .nil))) .nil))) .nil)) simg_nm (keep_nm (by decide)) sim_yes (sim_callT f_law_right (sim_call f_law_pool rfl (.cons (sim_call f_law_cell rfl (.cons sim_var (.cons sim_var .nil)) rfl rfl) .nil) rfl rfl))) .nil))) sims_next))
/-! ### what a row is -/
def hB : U → Bool
  | .int x => decide (1 ≤ x) && decide (x ≤ 999)
  | _ => false
def okU (u : U) : Prop := tyU u ≠ none
def rowG : List Int → List U → Bool
  | _, [] => true
  | pre, x :: r => match x with
    | .int i => decide (1 ≤ i) && decide (i ≤ 999) && !decide (i ∈ pre) && rowG (pre ++ [i]) r
    | _ => false
def rowB : U → Bool
  | .tup us => decide (1 ≤ us.length) && decide (us.length ≤ 12) && rowG [] us
  | _ => false
def isInt : U → Bool
  | .int _ => true
  | .bl _ => true
  | _ => false
def isBool : U → Bool
  | .bl _ => true
  | _ => false
def isTupU : U → Bool
  | .tup _ => true
  | _ => false
theorem isw_int {u : U} (h : okU u) : isiU u "int" = some (isInt u) := by
  cases u with
  | rng => exact absurd rfl h
  | ty => exact absurd rfl h
  | _ => rfl
theorem isw_bool {u : U} (h : okU u) : isiU u "bool" = some (isBool u) := by
  cases u with
  | rng => exact absurd rfl h
  | ty => exact absurd rfl h
  | _ => rfl
theorem isw_tup {u : U} (h : okU u) : isiU u "tuple" = some (isTupU u) := by
  cases u with
  | rng => exact absurd rfl h
  | ty => exact absurd rfl h
  | _ => rfl
theorem is_integer_other {u : U} (h : okU u) (hn : ∀ x, u ≠ .int x) (a b : Int) : V_is_integer [u, .int a, .int b] = .ok (.bl false) false .non := by
  have i1 := isw_int h
  have i2 := isw_bool h
  cases u with
  | int x => exact absurd rfl (hn x)
  | rng => exact absurd rfl h
  | ty => exact absurd rfl h
  | _ => simp [V_is_integer, runV, vb_is_integer, i1, i2, isInt, isBool]
theorem is_height_any {u : U} (h : okU u) : V_is_height [u] = .ok (.bl (hB u)) false .non := by
  cases u with
  | int x => exact is_height_V x
  | rng => exact absurd rfl h
  | ty => exact absurd rfl h
  | _ => simp [V_is_height, runV, vb_is_height, is_integer_other h (fun x z => by cases z), hB]
theorem rowG_iff : ∀ (us : List U) (pre : List Int), pre.Nodup → (rowG pre us = true ↔ (us.all hB = true ∧ ∃ ns : List Int, us = ns.map U.int ∧ (pre ++ ns).Nodup))
  | [], pre, hp => by
    simp only [rowG, List.all_nil, true_and]
    exact ⟨fun _ => ⟨[], rfl, by simpa using hp⟩, fun _ => trivial⟩
  | x :: r, pre, hp => by
    cases x with
    | int i =>
      by_cases hi : i ∈ pre
      · constructor
        · intro h
          simp [rowG, hi] at h
        · rintro ⟨_, ns, e, nd⟩
          cases ns with
          | nil => cases e
          | cons j ns =>
            rw [List.map_cons] at e
            injection e with e1 e2
            injection e1 with e1
            subst e1
            exact absurd rfl ((List.nodup_append.mp nd).2.2 i hi i List.mem_cons_self)
      · have hp' : (pre ++ [i]).Nodup := List.nodup_append.mpr ⟨hp, by simp, fun a ha b hb => by rw [List.mem_singleton] at hb; subst hb; exact fun z => hi (z ▸ ha)⟩
        have ih := rowG_iff r (pre ++ [i]) hp'
        simp only [rowG, hi, decide_false, Bool.not_false, Bool.and_true, Bool.and_eq_true, List.all_cons]
        rw [ih]
        constructor
        · rintro ⟨h1, h2, ns, rfl, nd⟩
          exact ⟨⟨by simpa [hB] using h1, h2⟩, i :: ns, rfl, by simpa using nd⟩
        · rintro ⟨⟨h1, h2⟩, ns, e, nd⟩
          cases ns with
          | nil => cases e
          | cons j ns =>
            rw [List.map_cons] at e
            injection e with e1 e2
            injection e1 with e1
            subst e1
            exact ⟨by simpa [hB] using h1, h2, ns, e2, by simpa using nd⟩
    | _ => simp [rowG, hB]
theorem all_hB : ∀ {us : List U}, us.all hB = true → ∃ ns : List Int, us = ns.map U.int
  | [], _ => ⟨[], rfl⟩
  | x :: r, h => by
    rw [List.all_cons, Bool.and_eq_true] at h
    obtain ⟨ns, rfl⟩ := all_hB h.2
    cases x with
    | int i => exact ⟨i :: ns, rfl⟩
    | _ => exact absurd h.1 (by simp [hB])
theorem intsU_ints : ∀ ns : List Int, intsU (ns.map U.int) = some ns
  | [] => rfl
  | n :: r => by show (intsU (r.map U.int)).map _ = _; rw [intsU_ints r]; rfl
theorem ddL_nd : ∀ {ns : List Int}, (ddL ns).length = ns.length ↔ ns.Nodup
  | [] => by simp [ddL]
  | x :: r => by
    have l := ddL_len (l := r)
    unfold ddL
    rw [List.nodup_cons]
    split
    · rename_i h
      simp only [List.length_cons]
      constructor
      · intro z; omega
      · intro z; exact absurd h z.1
    · rename_i h
      rw [List.length_cons, List.length_cons, Nat.add_right_cancel_iff, ddL_nd (ns := r)]
      exact ⟨fun z => ⟨h, z⟩, fun z => z.2⟩
theorem boolsU_map {α : Type} (f : α → Bool) : ∀ l : List α, boolsU (l.map fun x => U.bl (f x)) = some (l.map f)
  | [] => rfl
  | x :: r => by show (boolsU (r.map fun x => U.bl (f x))).map _ = _; rw [boolsU_map f r]; rfl
theorem is_row_any {u : U} (h : okU u) (ht : ∀ us, u = .tup us → us.length ≤ 1000 ∧ ∀ x ∈ us, okU x) : V_is_row [u] = .ok (.bl (rowB u)) false .non := by
  have i3 := isw_tup h
  cases u with
  | rng => exact absurd rfl h
  | ty => exact absurd rfl h
  | tup us =>
    obtain ⟨hl, hx⟩ := ht us rfl
    by_cases c : 1 ≤ us.length ∧ us.length ≤ 12
    · have c0 : (1 : Int) ≤ (us.length : Int) := by omega
      have c1 : (us.length : Int) ≤ 12 := by omega
      have hn : us.length < 1000000 := by omega
      have lc : ∀ su0 : US, su0 = [some (.tup us, .bor), none] → lcV (vgNm 1) vYes vc_is_row_1 [1] us su0 = .ok (us.map fun x => U.bl (hB x)) su0 := fun su0 e => by
        subst e
        have := lc_gg (E := vc_is_row_1) (i := 1) (su := [some (.tup us, .bor), none]) (fun x : U => x) (fun x => U.bl (hB x)) rfl us fun x hm => by
          simp [vc_is_row_1, is_height_any (hx x hm)]
        simpa using this
      have lc' := lc _ rfl
      have bs := boolsU_map hB us
      cases ha : us.all hB with
      | false =>
        have rg : rowG [] us = false := by
          cases e : rowG [] us with
          | false => rfl
          | true => rw [((rowG_iff us [] List.nodup_nil).mp e).1] at ha; cases ha
        have ha' : (us.map hB).all id = false := by rw [List.all_map]; exact ha
        simp [V_is_row, runV, vb_is_row, c0, c1, hn, lc', bs, ha, ha', rowB, rg]
      | true =>
        obtain ⟨ns, rfl⟩ := all_hB ha
        have ha' : ((ns.map U.int).map hB).all id = true := by rw [List.all_map]; exact ha
        have rg : rowG [] (ns.map U.int) = decide (ns.Nodup) := by
          rw [Bool.eq_iff_iff, rowG_iff _ [] List.nodup_nil, decide_eq_true_eq]
          constructor
          · rintro ⟨_, ms, e, nd⟩
            have := congrArg intsU e
            rw [intsU_ints, intsU_ints] at this
            injection this with this
            rw [this]
            simpa using nd
          · intro nd
            exact ⟨ha, ns, rfl, by simpa using nd⟩
        have dd : decide ((ddL ns).length = ns.length) = decide (ns.Nodup) := by
          rw [Bool.eq_iff_iff, decide_eq_true_eq, decide_eq_true_eq, ddL_nd]
        have nl : ¬ (12 : Int) < (ns.length : Int) := by simpa using c1
        have z0 : 1 ≤ ns.length ∧ ns.length ≤ 12 := by simpa using c
        have z1 : ns.length ≤ 1000 := by omega
        have z2 : (1 : Int) ≤ (ns.length : Int) := by omega
        have z3 : ns.length < 1000000 := by omega
        have z4 : ns.length ≤ 16777216 := by omega
        rw [List.map_map] at bs ha' lc'
        have ddi : ((ddL ns).length : Int) = (ns.length : Int) ↔ ns.Nodup := by
          rw [← ddL_nd (ns := ns)]
          omega
        have all1 : List.all (List.map (hB ∘ U.int) ns) id = true := ha'
        simp [V_is_row, runV, vb_is_row, nl, z0, z1, z2, z3, z4, lc', bs, vLenSet, intsU_ints, ha, all1, rowB, rg, ddi]
    · have c' : ¬ ((1 : Int) ≤ (us.length : Int)) ∨ ((1 : Int) ≤ (us.length : Int) ∧ ¬ (us.length : Int) ≤ 12) := by omega
      have rb : rowB (.tup us) = false := by
        rcases c' with c' | ⟨c1, c'⟩
        · have : ¬ 1 ≤ us.length := by omega
          simp [rowB, this]
        · have : ¬ us.length ≤ 12 := by omega
          simp [rowB, this]
      rcases c' with c' | ⟨c1, c'⟩
      · simp [V_is_row, runV, vb_is_row, c', rb]
      · simp [V_is_row, runV, vb_is_row, c1, c', rb]
  | _ => simp [V_is_row, runV, vb_is_row, rowB, i3, isTupU]
/-! ### the law's own -/
theorem isr_loop {us : List U} (hx : ∀ x ∈ us, okU x) : ∀ (rest : List U) (k : Nat) (pre : List Int) (v w : Option (U × Fl)), us.drop k = rest → us.take k = pre.map U.int →
    ((rowG pre rest = true ∧ ∃ v' w', forV (vgTp [vgNm 1, vgNm 2]) vl_law_is_row_1 (enumU k rest) [some (.tup us, .bor), v, w] = .nx [some (.tup us, .bor), v', w']) ∨
     (rowG pre rest = false ∧ ∃ su', forV (vgTp [vgNm 1, vgNm 2]) vl_law_is_row_1 (enumU k rest) [some (.tup us, .bor), v, w] = .rt (.bl false) false su'))
  | [], k, pre, v, w, _, _ => .inl ⟨rfl, v, w, rfl⟩
  | x :: r, k, pre, v, w, hd, ht => by
    have hk : us[k]? = some x := by rw [← List.head?_drop, hd]; rfl
    have ok := hx x (List.mem_of_getElem? hk)
    have i1 := isw_int ok
    have i2 := isw_bool ok
    rw [enumU, for_cons]
    cases x with
    | int i =>
      by_cases h1 : (0 : Int) < i
      · by_cases h2 : i < 1000
        · have ci : inU (.int i) (.tup (us.take k)) = some (decide (i ∈ pre)) := by rw [ht, inU_ints]
          by_cases hi : i ∈ pre
          · refine .inr ⟨by simp [rowG, hi], ?_⟩
            simp [vl_law_is_row_1, i1, i2, isInt, isBool, h1, h2, cut_to, ci, hi]
          · have ht' : us.take (k + 1) = (pre ++ [i]).map U.int := by
              rw [List.take_add_one, ht, hk]
              simp
            have hd' : us.drop (k + 1) = r := by rw [← List.drop_drop, hd]; rfl
            have g : rowG pre (.int i :: r) = rowG (pre ++ [i]) r := by
              have a1 : 1 ≤ i := by omega
              have a2 : i ≤ 999 := by omega
              simp [rowG, hi, a1, a2]
            rw [g]
            rcases isr_loop hx r (k + 1) (pre ++ [i]) (some (.int k, .shr)) (some (.int i, .shr)) hd' ht' with ⟨g1, v', w', e⟩ | ⟨g1, su', e⟩
            · refine .inl ⟨g1, v', w', ?_⟩
              simp [vl_law_is_row_1, i1, i2, isInt, isBool, h1, h2, cut_to, ci, hi]
              simpa [vl_law_is_row_1] using e
            · refine .inr ⟨g1, su', ?_⟩
              simp [vl_law_is_row_1, i1, i2, isInt, isBool, h1, h2, cut_to, ci, hi]
              simpa [vl_law_is_row_1] using e
        · have : ¬ i ≤ 999 := by omega
          refine .inr ⟨by simp [rowG, this], ?_⟩
          simp [vl_law_is_row_1, i1, i2, isInt, isBool, h1, h2]
      · have : ¬ 1 ≤ i := by omega
        refine .inr ⟨by simp [rowG, this], ?_⟩
        simp [vl_law_is_row_1, i1, i2, isInt, isBool, h1]
    | _ =>
      refine .inr ⟨rfl, ?_⟩
      simp [vl_law_is_row_1, i1, i2, isInt, isBool]
theorem law_is_row_any {u : U} (h : okU u) (ht : ∀ us, u = .tup us → us.length ≤ 1000 ∧ ∀ x ∈ us, okU x) : V_law_is_row [u] = .ok (.bl (rowB u)) false .non := by
  have i3 := isw_tup h
  cases u with
  | rng => exact absurd rfl h
  | ty => exact absurd rfl h
  | tup us =>
    obtain ⟨hl, hx⟩ := ht us rfl
    by_cases c : 1 ≤ us.length ∧ us.length ≤ 12
    · have c0 : (0 : Int) < (us.length : Int) := by omega
      have c1 : (us.length : Int) < 13 := by omega
      have hn : (enumU 0 us).length < 1000000 := by rw [enumU_length]; omega
      have hn2 : us.length < 1000000 := by omega
      have c0n : 0 < us.length := by omega
      rcases isr_loop hx us 0 [] none none rfl rfl with ⟨g, v', w', e⟩ | ⟨g, su', e⟩
      · simp [V_law_is_row, runV, vb_law_is_row, i3, isTupU, c0, c0n, c1, hn, hn2, enumU_length, e, rowB, c, g]
      · simp [V_law_is_row, runV, vb_law_is_row, i3, isTupU, c0, c0n, c1, hn, hn2, enumU_length, e, rowB, g]
    · have c' : ¬ ((0 : Int) < (us.length : Int)) ∨ ((0 : Int) < (us.length : Int) ∧ ¬ (us.length : Int) < 13) := by omega
      have rb : rowB (.tup us) = false := by
        rcases c' with c' | ⟨c1, c'⟩
        · have : ¬ 1 ≤ us.length := by omega
          simp [rowB, this]
        · have : ¬ us.length ≤ 12 := by omega
          simp [rowB, this]
      rcases c' with c' | ⟨c1, c'⟩
      · have e0 : us = [] := List.length_eq_zero_iff.mp (by omega)
        subst e0
        simp [V_law_is_row, runV, vb_law_is_row, i3, isTupU, rb]
      · have c0n : 0 < us.length := by omega
        simp [V_law_is_row, runV, vb_law_is_row, i3, isTupU, c0n, c', rb]
  | _ => simp [V_law_is_row, runV, vb_law_is_row, rowB, i3, isTupU]
def goodT (u : U) : Prop := okU u ∧ ∀ us, u = .tup us → us.length ≤ 1000 ∧ ∀ x ∈ us, okU x
theorem atI_ok {xs : List U} {r : Int} (h0 : 0 ≤ r) (h1 : r < xs.length) : ∃ u ∈ xs, atI xs r = some u := by
  have hk : r.toNat < xs.length := by omega
  refine ⟨xs[r.toNat], List.getElem_mem hk, ?_⟩
  have := atI_nat (List.getElem?_eq_getElem hk)
  rwa [show ((r.toNat : Nat) : Int) = r by omega] at this
theorem mulT {a : List U} (h : a ≠ []) (hl : a.length ≤ 1000) : uB .Mult (.tup a) (.int 13) = .val (.tup (List.replicate 13 a).flatten) := by
  show (if a ≠ [] ∧ (2 : Int) ≤ 13 ∧ (13 : Int) ≤ 1000 ∧ a.length ≤ 1000 then VO.val (.tup (List.replicate (13 : Int).toNat a).flatten) else VO.no) = _
  rw [if_pos ⟨h, by decide, by decide, hl⟩]
  rfl
theorem bent_V {p : List U} (hp : PoolU p) {L : List Int} (hl : HL L) (h0 : 1 ≤ L.length) (h1 : L.length ≤ 12) : ∃ u p', PoolU p' ∧ goodT u ∧ V_law_bent [.lst p, .tup (L.map .int)] = .ok u false (.lst p') := by
  obtain ⟨r, p1, hp1, r0, r1, e1⟩ := draw_V (k := (L.length : Int)) hp (by omega) (by omega)
  obtain ⟨m, p2, hp2, m0, m1, e2⟩ := draw_V (k := 7) hp1 (by omega) (by omega)
  have pw : powOk 10 30 = true := by
    unfold powOk
    rw [hid_eq]
    decide +kernel
  obtain ⟨x, hx⟩ : ∃ x, L[0]? = some x := ⟨_, List.getElem?_eq_getElem (by omega)⟩
  have a0 : atI (L.map U.int) 0 = some (.int x) := atI_nat (i := 0) (by rw [List.getElem?_map, hx]; rfl)
  obtain ⟨y, hy⟩ : ∃ y, L[r.toNat]? = some y := ⟨_, List.getElem?_eq_getElem (by omega)⟩
  have ar : atI (L.map U.int) r = some (.int y) := by
    have := atI_nat (i := r.toNat) (xs := L.map U.int) (x := .int y) (by rw [List.getElem?_map, hy]; rfl)
    rwa [show ((r.toNat : Nat) : Int) = r by omega] at this
  have Lok : ∀ z ∈ L.map U.int, okU z := fun z hz => by
    obtain ⟨k, _, rfl⟩ := List.mem_map.mp hz
    exact fun e => by cases e
  have odd : ∀ q : Int, 0 ≤ q → q < 14 → ∃ u, okU u ∧ atI [U.int 0, U.int 1000, U.int (-1), U.bl true, U.bl false, U.non, U.str (Str.ofString "7"), U.tup [U.int 7], U.lst [], U.edi, U.int 1000000000000000000000000000000, U.int x, U.int 999, U.int 1] q = some u := fun q z0 z1 => by
    obtain ⟨u, hu, e⟩ := atI_ok (xs := [U.int 0, U.int 1000, U.int (-1), U.bl true, U.bl false, U.non, U.str (Str.ofString "7"), U.tup [U.int 7], U.lst [], U.edi, U.int 1000000000000000000000000000000, U.int x, U.int 999, U.int 1]) z0 z1
    refine ⟨u, ?_, e⟩
    simp only [List.mem_cons, List.not_mem_nil, or_false] at hu
    rcases hu with rfl | rfl | rfl | rfl | rfl | rfl | rfl | rfl | rfl | rfl | rfl | rfl | rfl | rfl <;> (intro z; cases z)
  by_cases q0 : m = 0
  · subst q0
    obtain ⟨i, p3, hp3, i0, i1, e3⟩ := draw_V (k := 12) hp2 (by omega) (by omega)
    obtain ⟨u, hu, e4⟩ := atI_ok (xs := [U.non, U.int 0, U.bl true, U.str (Str.ofString "row"), U.tup [], U.lst [], U.edi, U.lst (List.map U.int L), U.tup [U.tup (List.map U.int L)], U.tup [U.tup []], U.int 7, U.tup [U.non]]) i0 i1
    refine ⟨u, p3, hp3, ?_, ?_⟩
    · simp only [List.mem_cons, List.not_mem_nil, or_false] at hu
      have nt : ∀ {v : U}, okU v → (∀ us, v ≠ .tup us) → goodT v := fun a b => ⟨a, fun us e => absurd e (b us)⟩
      have tt : ∀ {us : List U}, us.length ≤ 1000 → (∀ x ∈ us, okU x) → goodT (.tup us) := fun a b => ⟨fun z => (by cases z), fun vs e => by cases e; exact ⟨a, b⟩⟩
      rcases hu with rfl | rfl | rfl | rfl | rfl | rfl | rfl | rfl | rfl | rfl | rfl | rfl
      all_goals first
        | (refine tt ?_ ?_ <;> simp [okU, tyU]; done)
        | (refine nt ?_ ?_ <;> simp [okU, tyU])
    · simp [V_law_bent, runV1, vb_law_bent, e1, e2, e3, pw, a0, vDict0, e4]
  · by_cases q1 : m = 1
    · subst q1
      obtain ⟨i, p3, hp3, i0, i1, e3⟩ := draw_V (k := 4) hp2 (by omega) (by omega)
      have g1 : rgOk 1 14 = true := rgOk_i (by omega) (by omega) (by omega) (by omega)
      have g2 : rgOk 1 13 = true := rgOk_i (by omega) (by omega) (by omega) (by omega)
      obtain ⟨A, hA, mm⟩ : ∃ A, A = (List.replicate 13 [U.bl true]).flatten ∧ uB .Mult (.tup [U.bl true]) (.int 13) = .val (.tup A) := ⟨_, rfl, mulT (by simp) (by simp)⟩
      obtain ⟨B, hB, m2⟩ : ∃ B, B = (List.replicate 13 (L.map U.int)).flatten ∧ uB .Mult (.tup (L.map U.int)) (.int 13) = .val (.tup B) :=
        ⟨_, rfl, mulT (by intro z; rw [List.map_eq_nil_iff] at z; subst z; simp at h0) (by simp; omega)⟩
      have iok : ∀ M : List Int, ∀ z ∈ M.map U.int, okU z := fun M z hz => by
        obtain ⟨k, _, rfl⟩ := List.mem_map.mp hz
        exact fun e => by cases e
      have tt : ∀ {us : List U}, us.length ≤ 1000 → (∀ x ∈ us, okU x) → goodT (.tup us) := fun a b => ⟨fun z => (by cases z), fun vs e => by cases e; exact ⟨a, b⟩⟩
      obtain ⟨u, hu, e4⟩ := atI_ok (xs := [U.tup (List.map U.int (rgL 1 14)), U.tup (List.map U.int (rgL 1 13)), U.tup A, U.tup B]) i0 i1
      refine ⟨u, p3, hp3, ?_, ?_⟩
      · simp only [List.mem_cons, List.not_mem_nil, or_false] at hu
        rcases hu with rfl | rfl | rfl | rfl
        · exact tt (by rw [List.length_map, rgL_len]; decide) (iok _)
        · exact tt (by rw [List.length_map, rgL_len]; decide) (iok _)
        · refine tt (by rw [hA]; decide) fun z hz => ?_
          rw [hA, List.mem_flatten] at hz
          obtain ⟨l, h1, h2⟩ := hz
          rw [List.eq_of_mem_replicate h1, List.mem_singleton] at h2
          subst h2
          exact fun e => by cases e
        · refine tt (by rw [hB, List.length_flatten]; simp; omega) fun z hz => ?_
          rw [hB, List.mem_flatten] at hz
          obtain ⟨l, h1, h2⟩ := hz
          rw [List.eq_of_mem_replicate h1] at h2
          exact iok _ z h2
      · simp [V_law_bent, runV1, vb_law_bent, e1, e2, e3, pw, a0, vDict0, g1, g2, mm, m2, e4]
    · by_cases q2 : m = 2
      · subst q2
        refine ⟨.tup (L.map .int ++ [.int y]), p2, hp2, ?_, ?_⟩
        · refine ⟨fun z => (by cases z), fun us e => ?_⟩
          cases e
          refine ⟨by simp; omega, fun z hz => ?_⟩
          rcases List.mem_append.mp hz with hz | hz
          · exact Lok z hz
          · rw [List.mem_singleton] at hz
            subst hz
            exact fun e => by cases e
        · have ll : L.length + 1 ≤ 16777216 := by omega
          simp [V_law_bent, runV1, vb_law_bent, e1, e2, pw, a0, ar, vDict0, ll]
      · by_cases q3 : m = 3
        · subst q3
          refine ⟨.tup (L.map .int), p2, hp2, ?_, ?_⟩
          · refine ⟨fun z => (by cases z), fun us e => ?_⟩
            cases e
            exact ⟨by simp; omega, Lok⟩
          · simp [V_law_bent, runV1, vb_law_bent, e1, e2, pw, a0, ar, vDict0]
        · obtain ⟨i, p3, hp3, i0, i1, e3⟩ := draw_V (k := 14) hp2 (by omega) (by omega)
          obtain ⟨u, hu, e4⟩ := odd i i0 i1
          obtain ⟨k, rfl⟩ : ∃ k : Nat, r = (k : Int) := ⟨r.toNat, by omega⟩
          have kl : k < L.length := by omega
          obtain ⟨M, hM⟩ : ∃ M, M = (L.map U.int).take k ++ u :: (L.map U.int).drop (k + 1) := ⟨_, rfl⟩
          have cf : ∀ (xs : List U) (j : Nat), cutL xs (some ((j : Int) + 1)) none = xs.drop (j + 1) := fun xs j => by
            have := cut_from xs (j + 1)
            rwa [show (((j + 1 : Nat)) : Int) = (j : Int) + 1 by omega] at this
          have ml : M.length = L.length := by rw [hM]; simp; omega
          have mok : ∀ z ∈ M, okU z := fun z hz => by
            rw [hM] at hz
            rcases List.mem_append.mp hz with hz | hz
            · exact Lok z (List.mem_of_mem_take hz)
            · rcases List.mem_cons.mp hz with rfl | hz
              · exact hu
              · exact Lok z (List.mem_of_mem_drop hz)
          have n1 : min k L.length ≤ 16777215 := by omega
          have n2 : min k L.length + 1 + (L.length - (k + 1)) ≤ 16777216 := by omega
          rw [← List.map_take, ← List.map_drop] at hM
          by_cases q4 : m = 4
          · subst q4
            obtain ⟨r2, p4, hp4, s0, s1, e5⟩ := draw_V (k := (L.length : Int)) hp3 (by omega) (by omega)
            obtain ⟨i2, p5, hp5, j0, j1, e6⟩ := draw_V (k := 14) hp4 (by omega) (by omega)
            obtain ⟨w, hw, e7⟩ := odd i2 j0 j1
            obtain ⟨k2, rfl⟩ : ∃ k : Nat, r2 = (k : Int) := ⟨r2.toNat, by omega⟩
            refine ⟨.tup (M.take k2 ++ [w] ++ M.drop (k2 + 1)), p5, hp5, ?_, ?_⟩
            · refine ⟨fun z => (by cases z), fun us e => ?_⟩
              cases e
              refine ⟨by simp; omega, fun z hz => ?_⟩
              rcases List.mem_append.mp hz with hz | hz
              · rcases List.mem_append.mp hz with hz | hz
                · exact mok z (List.mem_of_mem_take hz)
                · rw [List.mem_singleton] at hz
                  subst hz
                  exact hw
              · exact mok z (List.mem_of_mem_drop hz)
            · have n3 : min k2 (min k L.length + (L.length - (k + 1) + 1)) ≤ 16777215 := by omega
              have n4 : min k2 (min k L.length + (L.length - (k + 1) + 1)) + 1 + (min k L.length + (L.length - (k + 1) + 1) - (k2 + 1)) ≤ 16777216 := by omega
              simp [-List.map_take, -List.map_drop, V_law_bent, runV1, vb_law_bent, e1, e2, e3, pw, a0, ar, vDict0, e4, e5, e6, e7, q0, q1, q2, q3, cut_to, cf, n1, n2, n3, n4, hM]
              simp only [List.map_take, List.map_drop]
          · refine ⟨.tup M, p3, hp3, ⟨fun z => (by cases z), fun us e => by cases e; exact ⟨by omega, mok⟩⟩, ?_⟩
            simp [V_law_bent, runV1, vb_law_bent, e1, e2, e3, pw, a0, ar, vDict0, e4, q0, q1, q2, q3, q4, cut_to, cf, n1, n2, hM]
            done
theorem told_loop (A : List (Option (U × Fl))) (b : Bool) (u : U) (hA : A.length = 4) (v : Option (U × Fl)) :
    ∃ v', forV (vgNm 5) vl_law_right_1 [.bl b, .bl b] (A ++ [some (.bl b, .shr), v]) = .nx (A ++ [some (.bl b, .shr), v']) := by
  match A, hA with
  | [a0, a1, a2, a3], _ =>
    refine ⟨some (.bl b, .shr), ?_⟩
    have st : ∀ w : Option (U × Fl), vl_law_right_1 [a0, a1, a2, a3, some (.bl b, .shr), some (.bl b, .shr)] = .nx [a0, a1, a2, a3, some (.bl b, .shr), some (.bl b, .shr)] := fun _ => by
      simp [vl_law_right_1]
    refine (for_step (su1 := [a0, a1, a2, a3, some (.bl b, .shr), some (.bl b, .shr)]) rfl (st v)).trans ?_
    exact for_step (su1 := [a0, a1, a2, a3, some (.bl b, .shr), some (.bl b, .shr)]) rfl (st v)
theorem ok_tup (us : List U) : okU (.tup us) := fun z => by cases z
theorem rowB_row {L : List Int} (hl : HL L) (h0 : 1 ≤ L.length) (h1 : L.length ≤ 12) : rowB (.tup (L.map .int)) = true := by
  have g : rowG [] (L.map .int) = true := (rowG_iff _ [] List.nodup_nil).mpr ⟨by
    rw [List.all_eq_true]
    intro x hx
    obtain ⟨k, hk, rfl⟩ := List.mem_map.mp hx
    have := hl.rg k hk
    simp [hB, this], L, rfl, by simpa using hl.nd⟩
  simp [rowB, g, h0, h1]
theorem good_row (L : List Int) (h1 : L.length ≤ 12) : ∀ us, U.tup (L.map .int) = .tup us → us.length ≤ 1000 ∧ ∀ x ∈ us, okU x := fun us e => by
  cases e
  refine ⟨by simp; omega, fun z hz => ?_⟩
  obtain ⟨k, _, rfl⟩ := List.mem_map.mp hz
  exact fun e => by cases e
theorem isn_b01 {a b : Bool} : uC .IsNot (.bl a) (.bl b) = .val (.bl (!decide (a = b))) := rfl
theorem is_b01 {a b : Bool} : uC .Is (.bl a) (.bl b) = .val (.bl (decide (a = b))) := rfl
theorem right01 {p : List U} (hp : PoolU p) : ∃ p', V_law_right [.lst p] = .ok (.bl true) false (.lst p') := by
  obtain ⟨L, p1, hp1, h0, h1, hl, e1⟩ := row_V (lo := 1) (hi := 12) hp (by omega) (by omega) (by omega)
  have h0' : 1 ≤ L.length := by omega
  have h1' : L.length ≤ 12 := by omega
  have ir : V_is_row [.tup (L.map .int)] = .ok (.bl true) false .non := by
    rw [is_row_any (ok_tup _) (good_row L h1'), rowB_row hl h0' h1']
  have il : V_is_row [.lst (L.map .int)] = .ok (.bl false) false .non := is_row_any (fun z => by cases z) fun us e => by cases e
  obtain ⟨su', lp, p', s2, s3, s4, s5, hp', rfl⟩ := for_inv (g := vgNm 2) (b := vl_law_right_2)
    (fun su => ∃ p' s2 s3 s4 s5, PoolU p' ∧ su = [some (.lst p', .io), some (.tup (L.map .int), .shr), s2, s3, s4, s5])
    ((rgL 0 7).map U.int) [some (.lst p1, .io), some (.tup (L.map .int), .shr), none, none, none, none] (by
      rintro x _ su ⟨q, s2, s3, s4, s5, hq, rfl⟩
      obtain ⟨u, q', hq', gu, e2⟩ := bent_V hq hl h0' h1'
      have i1 := is_row_any gu.1 gu.2
      have i2 := law_is_row_any gu.1 gu.2
      obtain ⟨v', e3⟩ := told_loop [some (.lst q', .io), some (.tup (L.map .int), .shr), some (x, .shr), some (u, .shr)] (rowB u) u rfl s5
      simp at e3
      refine ⟨_, _, rfl, ?_, q', some (x, .shr), some (u, .shr), some (.bl (rowB u), .shr), v', hq', rfl⟩
      simp [vl_law_right_2, e2, i1, i2, e3]
      done) ⟨p1, none, none, none, none, hp1, rfl⟩
  refine ⟨p', ?_⟩
  have sm : smallI 7 = true := smallI_i (by decide) (by decide)
  have hn : (rgL 0 7).length < 1000000 := by rw [rgL_len]; decide
  simp [V_law_right, runV1, vb_law_right, e1, ir, il, lp, isn_b01, is_b01, sm, hn]
theorem law01 (ns : List Int) : ∃ o, V_law [.scr ns] = .ok (.bl true) false o := by
  have row := law_row (ns := ns) (N := 8) (E := vc_law_1) (by decide) (by decide) fun x h0 h1 => by
    obtain ⟨c, e1⟩ := cell_V (ns := ns) h0 h1
    obtain ⟨p, hp, e2⟩ := pool_V c
    obtain ⟨p', e3⟩ := right01 hp
    simp [vc_law_1, e1, e2, e3]
  have ok1 : ∀ l : List U, l.length ≤ 1000 → (∀ x ∈ l, okU x) → V_is_row [.tup l] = .ok (.bl (rowB (.tup l))) false .non := fun l a b => is_row_any (ok_tup _) fun us e => by cases e; exact ⟨a, b⟩
  have a1 := ok1 [.int 999] (by simp) (by simp [okU, tyU])
  have a2 := ok1 [.int 1000] (by simp) (by simp [okU, tyU])
  have a3 := ok1 [] (by simp) (by simp)
  have a4 := ok1 [.int 2, .int 1] (by simp) (by simp [okU, tyU])
  have a5 := ok1 [.int 2, .bl true] (by simp) (by simp [okU, tyU])
  simp [rowB, rowG] at a1 a2 a3 a4 a5
  refine ⟨.non, ?_⟩
  unfold V_law runV vb_law
  simp [-v_blt, a1, a2, a3, a4, a5, isn_b01]
  rw [row]
  simp
end
end PyI
namespace Law
noncomputable section
open PySem PySem.Spec PyProof.Rows L2 PyI
def topS (i : Nat) : Stmt := PySem.Challenge.pw_lastpasses_k01_rows_told.main.body.getD i (.Pass ⟨0, 0, 0, 0⟩)
def d_is_integer : DefI := ⟨"is_integer", ["value", "low", "high"], ["value", "low", "high"], topS 3⟩
def d_is_height : DefI := ⟨"is_height", ["value"], ["value"], topS 4⟩
def d_is_row : DefI := ⟨"is_row", ["value"], ["value", "height"], topS 5⟩
def d__law_cell : DefI := ⟨"_law_cell", ["_law_script", "_law_k"], ["_law_script", "_law_k", "_law_state", "_law_number"], topS 7⟩
def d__law_pool : DefI := ⟨"_law_pool", ["_law_number"], ["_law_number", "_law_digits"], topS 8⟩
def d__law_draw : DefI := ⟨"_law_draw", ["_law_pool_here", "_law_count"], ["_law_pool_here", "_law_count", "_law_state", "_law_digit"], topS 9⟩
def d__law_heights : DefI := ⟨"_law_heights", ["_law_pool_here", "_law_size"], ["_law_pool_here", "_law_size", "_law_mode", "_law_left", "_law_k"], topS 10⟩
def d__law_row : DefI := ⟨"_law_row", ["_law_pool_here", "_law_least", "_law_most"], ["_law_pool_here", "_law_least", "_law_most", "_law_k", "_law_left", "_law_found"], topS 11⟩
def d__law_is_row : DefI := ⟨"_law_is_row", ["_law_thing"], ["_law_thing", "_law_index", "_law_person"], topS 12⟩
def d__law_bent : DefI := ⟨"_law_bent", ["_law_pool_here", "_law_line"], ["_law_pool_here", "_law_line", "_law_odd", "_law_bent_here", "_law_at", "_law_mode", "_law_some"], topS 13⟩
def d__law_right : DefI := ⟨"_law_right", ["_law_pool_here"], ["_law_pool_here", "_law_line", "_law_turn", "_law_thing", "_law_due", "_law_told"], topS 14⟩
def d_law : DefI := ⟨"law", ["_law_script"], ["_law_script", "_law_k"], topS 15⟩
def tT : List DefI := [d_is_integer, d_is_height, d_is_row, d__law_cell, d__law_pool, d__law_draw, d__law_heights, d__law_row, d__law_is_row, d__law_bent, d__law_right, d_law]
def tG : List (Str × GV) := ("is_integer", .fn 0 3 [(3, [], [0, 1, 2], [])]) :: ("is_height", .fn 1 1 [(1, [], [0], [])]) :: ("is_row", .fn 2 1 [(1, [], [0], []), (0, ["value"], [0], [])]) :: ("_law_cell", .fn 3 2 [(2, [], [0, 1], [])]) :: ("_law_pool", .fn 4 1 [(1, [], [0], [])]) :: ("_law_draw", .fn 5 2 [(2, [], [0, 1], [])]) :: ("_law_heights", .fn 6 2 [(2, [], [0, 1], [])]) :: ("_law_row", .fn 7 3 [(3, [], [0, 1, 2], [])]) :: ("_law_is_row", .fn 8 1 [(1, [], [0], [])]) :: ("_law_bent", .fn 9 2 [(2, [], [0, 1], [])]) :: ("_law_right", .fn 10 1 [(1, [], [0], [])]) :: ("law", .fn 11 1 [(1, [], [0], [])]) :: ("MOST_PEOPLE", .con (.int 12)) :: ("MOST_HEIGHT", .con (.int 999)) :: []
def tB : List Str := ["all", "range", "max", "min", "len", "abs", "list", "isinstance", "bool", "tuple", "set", "int", "enumerate", "divmod", "sorted"]

theorem e_is_integer (F : Nat → List D → DH → Res D) : bodyM tG tB F d_is_integer = b_is_integer := rfl
theorem fs_is_integer (m : Nat) : FSim (Fs tG tB tT (m + 1) 0) V_is_integer := fsim_fs rfl (e_is_integer _) (sim_is_integer )
theorem e_is_height (F : Nat → List D → DH → Res D) : bodyM tG tB F d_is_height = b_is_height (F 0) := rfl
theorem fs_is_height (m : Nat) : FSim (Fs tG tB tT (m + 2) 1) V_is_height := fsim_fs rfl (e_is_height _) (sim_is_height (fs_is_integer (m + 0)))
theorem e_is_row (F : Nat → List D → DH → Res D) : bodyM tG tB F d_is_row = b_is_row (F 1) := rfl
theorem fs_is_row (m : Nat) : FSim (Fs tG tB tT (m + 3) 2) V_is_row := fsim_fs rfl (e_is_row _) (sim_is_row (fs_is_height (m + 0)))
theorem e_law_cell (F : Nat → List D → DH → Res D) : bodyM tG tB F d__law_cell = b_law_cell := rfl
theorem fs_law_cell (m : Nat) : FSim (Fs tG tB tT (m + 1) 3) V_law_cell := fsim_fs rfl (e_law_cell _) (sim_law_cell )
theorem e_law_pool (F : Nat → List D → DH → Res D) : bodyM tG tB F d__law_pool = b_law_pool := rfl
theorem fs_law_pool (m : Nat) : FSim (Fs tG tB tT (m + 1) 4) V_law_pool := fsim_fs rfl (e_law_pool _) (sim_law_pool )
theorem e_law_draw (F : Nat → List D → DH → Res D) : bodyM tG tB F d__law_draw = b_law_draw := rfl
theorem fs_law_draw (m : Nat) : FSim1 (Fs tG tB tT (m + 1) 5) V_law_draw := fsim1_fs rfl (e_law_draw _) (sim_law_draw )
theorem e_law_heights (F : Nat → List D → DH → Res D) : bodyM tG tB F d__law_heights = b_law_heights (F 5) := rfl
theorem fs_law_heights (m : Nat) : FSim1 (Fs tG tB tT (m + 2) 6) V_law_heights := fsim1_fs rfl (e_law_heights _) (sim_law_heights (fs_law_draw (m + 0)))
theorem e_law_row (F : Nat → List D → DH → Res D) : bodyM tG tB F d__law_row = b_law_row (F 5) (F 6) := rfl
theorem fs_law_row (m : Nat) : FSim1 (Fs tG tB tT (m + 3) 7) V_law_row := fsim1_fs rfl (e_law_row _) (sim_law_row (fs_law_draw (m + 1)) (fs_law_heights (m + 0)))
theorem e_law_is_row (F : Nat → List D → DH → Res D) : bodyM tG tB F d__law_is_row = b_law_is_row := rfl
theorem fs_law_is_row (m : Nat) : FSim (Fs tG tB tT (m + 1) 8) V_law_is_row := fsim_fs rfl (e_law_is_row _) (sim_law_is_row )
theorem e_law_bent (F : Nat → List D → DH → Res D) : bodyM tG tB F d__law_bent = b_law_bent (F 5) := rfl
theorem fs_law_bent (m : Nat) : FSim1 (Fs tG tB tT (m + 2) 9) V_law_bent := fsim1_fs rfl (e_law_bent _) (sim_law_bent (fs_law_draw (m + 0)))
theorem e_law_right (F : Nat → List D → DH → Res D) : bodyM tG tB F d__law_right = b_law_right (F 2) (F 7) (F 8) (F 9) := rfl
theorem fs_law_right (m : Nat) : FSim1 (Fs tG tB tT (m + 4) 10) V_law_right := fsim1_fs rfl (e_law_right _) (sim_law_right (fs_is_row (m + 0)) (fs_law_row (m + 0)) (fs_law_is_row (m + 2)) (fs_law_bent (m + 1)))
theorem e_law (F : Nat → List D → DH → Res D) : bodyM tG tB F d_law = b_law (F 2) (F 3) (F 4) (F 10) := rfl
theorem fs_law (m : Nat) : FSim (Fs tG tB tT (m + 5) 11) V_law := fsim_fs rfl (e_law _) (sim_law (fs_is_row (m + 1)) (fs_law_cell (m + 3)) (fs_law_pool (m + 3)) (fs_law_right (m + 0)))
theorem says : Says (Fs tG tB tT 20 11) 63 := says_V (fs_law 15) fun ns _ => law01 ns
end
end Law
namespace Law
open PySem PySem.Spec PyProof.Rows L2 PyI
theorem sc_is_integer : FnScope d_is_integer.N d_is_integer.ps (defScope d_is_integer.st) := ⟨rfl, rfl, rfl, by decide +kernel, rfl, by decide +kernel, by decide +kernel⟩
theorem sc_is_height : FnScope d_is_height.N d_is_height.ps (defScope d_is_height.st) := ⟨rfl, rfl, rfl, by decide +kernel, rfl, by decide +kernel, by decide +kernel⟩
theorem sc_is_row : FnScope d_is_row.N d_is_row.ps (defScope d_is_row.st) := ⟨rfl, rfl, rfl, by decide +kernel, rfl, by decide +kernel, by decide +kernel⟩
theorem sc__law_cell : FnScope d__law_cell.N d__law_cell.ps (defScope d__law_cell.st) := ⟨rfl, rfl, rfl, by decide +kernel, rfl, by decide +kernel, by decide +kernel⟩
theorem sc__law_pool : FnScope d__law_pool.N d__law_pool.ps (defScope d__law_pool.st) := ⟨rfl, rfl, rfl, by decide +kernel, rfl, by decide +kernel, by decide +kernel⟩
theorem sc__law_draw : FnScope d__law_draw.N d__law_draw.ps (defScope d__law_draw.st) := ⟨rfl, rfl, rfl, by decide +kernel, rfl, by decide +kernel, by decide +kernel⟩
theorem sc__law_heights : FnScope d__law_heights.N d__law_heights.ps (defScope d__law_heights.st) := ⟨rfl, rfl, rfl, by decide +kernel, rfl, by decide +kernel, by decide +kernel⟩
theorem sc__law_row : FnScope d__law_row.N d__law_row.ps (defScope d__law_row.st) := ⟨rfl, rfl, rfl, by decide +kernel, rfl, by decide +kernel, by decide +kernel⟩
theorem sc__law_is_row : FnScope d__law_is_row.N d__law_is_row.ps (defScope d__law_is_row.st) := ⟨rfl, rfl, rfl, by decide +kernel, rfl, by decide +kernel, by decide +kernel⟩
theorem sc__law_bent : FnScope d__law_bent.N d__law_bent.ps (defScope d__law_bent.st) := ⟨rfl, rfl, rfl, by decide +kernel, rfl, by decide +kernel, by decide +kernel⟩
theorem sc__law_right : FnScope d__law_right.N d__law_right.ps (defScope d__law_right.st) := ⟨rfl, rfl, rfl, by decide +kernel, rfl, by decide +kernel, by decide +kernel⟩
theorem sc_law : FnScope d_law.N d_law.ps (defScope d_law.st) := ⟨rfl, rfl, rfl, by decide +kernel, rfl, by decide +kernel, by decide +kernel⟩
set_option maxHeartbeats 0 in
theorem all_mk {K : PySem.W.Frag} {h : Heap} {mg : Str → Option Value} {fa : Addr} (X : K.In h) (G : h.Ns mainGlobals mg) (hfa : mg "law" = some (.ref fa))
    {f0 : Addr} {oc0 kV0 dc0 pm0 cd0 ct0 : Value} {od0 an0 : Option Addr} {sl0 : Array (Option Value)}
    {f1 : Addr} {oc1 kV1 dc1 pm1 cd1 ct1 : Value} {od1 an1 : Option Addr} {sl1 : Array (Option Value)}
    {f2 : Addr} {oc2 kV2 dc2 pm2 cd2 ct2 : Value} {od2 an2 : Option Addr} {sl2 : Array (Option Value)}
    {f3 : Addr} {oc3 kV3 dc3 pm3 cd3 ct3 : Value} {od3 an3 : Option Addr} {sl3 : Array (Option Value)}
    {f4 : Addr} {oc4 kV4 dc4 pm4 cd4 ct4 : Value} {od4 an4 : Option Addr} {sl4 : Array (Option Value)}
    {f5 : Addr} {oc5 kV5 dc5 pm5 cd5 ct5 : Value} {od5 an5 : Option Addr} {sl5 : Array (Option Value)}
    {f6 : Addr} {oc6 kV6 dc6 pm6 cd6 ct6 : Value} {od6 an6 : Option Addr} {sl6 : Array (Option Value)}
    {f7 : Addr} {oc7 kV7 dc7 pm7 cd7 ct7 : Value} {od7 an7 : Option Addr} {sl7 : Array (Option Value)}
    {f8 : Addr} {oc8 kV8 dc8 pm8 cd8 ct8 : Value} {od8 an8 : Option Addr} {sl8 : Array (Option Value)}
    {f9 : Addr} {oc9 kV9 dc9 pm9 cd9 ct9 : Value} {od9 an9 : Option Addr} {sl9 : Array (Option Value)}
    {f10 : Addr} {oc10 kV10 dc10 pm10 cd10 ct10 : Value} {od10 an10 : Option Addr} {sl10 : Array (Option Value)}
    {f11 : Addr} {oc11 kV11 dc11 pm11 cd11 ct11 : Value} {od11 an11 : Option Addr} {sl11 : Array (Option Value)}
    {t0 : Tok}
    {t1 : Tok}
    (a0 : PySem.W.nsIn K mainGlobals "is_integer" = some (some (.ref f0)))
    (l0 : K.lookup f0 = some ⟨oc0, od0, .func (PySem.W.fnOf d_is_integer.name d_is_integer.name (defArgs d_is_integer.st) (defBody d_is_integer.st) (defScope d_is_integer.st) .none kV0 dc0 pm0 an0 cd0 ct0), sl0⟩)
    (c0 : PySem.W.codeIn K cd0 "is_integer" = true)
    (k0 : PySem.W.keepIn K (.ref f0) = true)
    (a1 : PySem.W.nsIn K mainGlobals "is_height" = some (some (.ref f1)))
    (l1 : K.lookup f1 = some ⟨oc1, od1, .func (PySem.W.fnOf d_is_height.name d_is_height.name (defArgs d_is_height.st) (defBody d_is_height.st) (defScope d_is_height.st) .none kV1 dc1 pm1 an1 cd1 ct1), sl1⟩)
    (c1 : PySem.W.codeIn K cd1 "is_height" = true)
    (k1 : PySem.W.keepIn K (.ref f1) = true)
    (a2 : PySem.W.nsIn K mainGlobals "is_row" = some (some (.ref f2)))
    (l2 : K.lookup f2 = some ⟨oc2, od2, .func (PySem.W.fnOf d_is_row.name d_is_row.name (defArgs d_is_row.st) (defBody d_is_row.st) (defScope d_is_row.st) .none kV2 dc2 pm2 an2 cd2 ct2), sl2⟩)
    (c2 : PySem.W.codeIn K cd2 "is_row" = true)
    (k2 : PySem.W.keepIn K (.ref f2) = true)
    (a3 : PySem.W.nsIn K mainGlobals "_law_cell" = some (some (.ref f3)))
    (l3 : K.lookup f3 = some ⟨oc3, od3, .func (PySem.W.fnOf d__law_cell.name d__law_cell.name (defArgs d__law_cell.st) (defBody d__law_cell.st) (defScope d__law_cell.st) .none kV3 dc3 pm3 an3 cd3 ct3), sl3⟩)
    (c3 : PySem.W.codeIn K cd3 "_law_cell" = true)
    (k3 : PySem.W.keepIn K (.ref f3) = true)
    (a4 : PySem.W.nsIn K mainGlobals "_law_pool" = some (some (.ref f4)))
    (l4 : K.lookup f4 = some ⟨oc4, od4, .func (PySem.W.fnOf d__law_pool.name d__law_pool.name (defArgs d__law_pool.st) (defBody d__law_pool.st) (defScope d__law_pool.st) .none kV4 dc4 pm4 an4 cd4 ct4), sl4⟩)
    (c4 : PySem.W.codeIn K cd4 "_law_pool" = true)
    (k4 : PySem.W.keepIn K (.ref f4) = true)
    (a5 : PySem.W.nsIn K mainGlobals "_law_draw" = some (some (.ref f5)))
    (l5 : K.lookup f5 = some ⟨oc5, od5, .func (PySem.W.fnOf d__law_draw.name d__law_draw.name (defArgs d__law_draw.st) (defBody d__law_draw.st) (defScope d__law_draw.st) .none kV5 dc5 pm5 an5 cd5 ct5), sl5⟩)
    (c5 : PySem.W.codeIn K cd5 "_law_draw" = true)
    (k5 : PySem.W.keepIn K (.ref f5) = true)
    (a6 : PySem.W.nsIn K mainGlobals "_law_heights" = some (some (.ref f6)))
    (l6 : K.lookup f6 = some ⟨oc6, od6, .func (PySem.W.fnOf d__law_heights.name d__law_heights.name (defArgs d__law_heights.st) (defBody d__law_heights.st) (defScope d__law_heights.st) .none kV6 dc6 pm6 an6 cd6 ct6), sl6⟩)
    (c6 : PySem.W.codeIn K cd6 "_law_heights" = true)
    (k6 : PySem.W.keepIn K (.ref f6) = true)
    (a7 : PySem.W.nsIn K mainGlobals "_law_row" = some (some (.ref f7)))
    (l7 : K.lookup f7 = some ⟨oc7, od7, .func (PySem.W.fnOf d__law_row.name d__law_row.name (defArgs d__law_row.st) (defBody d__law_row.st) (defScope d__law_row.st) .none kV7 dc7 pm7 an7 cd7 ct7), sl7⟩)
    (c7 : PySem.W.codeIn K cd7 "_law_row" = true)
    (k7 : PySem.W.keepIn K (.ref f7) = true)
    (a8 : PySem.W.nsIn K mainGlobals "_law_is_row" = some (some (.ref f8)))
    (l8 : K.lookup f8 = some ⟨oc8, od8, .func (PySem.W.fnOf d__law_is_row.name d__law_is_row.name (defArgs d__law_is_row.st) (defBody d__law_is_row.st) (defScope d__law_is_row.st) .none kV8 dc8 pm8 an8 cd8 ct8), sl8⟩)
    (c8 : PySem.W.codeIn K cd8 "_law_is_row" = true)
    (k8 : PySem.W.keepIn K (.ref f8) = true)
    (a9 : PySem.W.nsIn K mainGlobals "_law_bent" = some (some (.ref f9)))
    (l9 : K.lookup f9 = some ⟨oc9, od9, .func (PySem.W.fnOf d__law_bent.name d__law_bent.name (defArgs d__law_bent.st) (defBody d__law_bent.st) (defScope d__law_bent.st) .none kV9 dc9 pm9 an9 cd9 ct9), sl9⟩)
    (c9 : PySem.W.codeIn K cd9 "_law_bent" = true)
    (k9 : PySem.W.keepIn K (.ref f9) = true)
    (a10 : PySem.W.nsIn K mainGlobals "_law_right" = some (some (.ref f10)))
    (l10 : K.lookup f10 = some ⟨oc10, od10, .func (PySem.W.fnOf d__law_right.name d__law_right.name (defArgs d__law_right.st) (defBody d__law_right.st) (defScope d__law_right.st) .none kV10 dc10 pm10 an10 cd10 ct10), sl10⟩)
    (c10 : PySem.W.codeIn K cd10 "_law_right" = true)
    (k10 : PySem.W.keepIn K (.ref f10) = true)
    (a11 : PySem.W.nsIn K mainGlobals "law" = some (some (.ref f11)))
    (l11 : K.lookup f11 = some ⟨oc11, od11, .func (PySem.W.fnOf d_law.name d_law.name (defArgs d_law.st) (defBody d_law.st) (defScope d_law.st) .none kV11 dc11 pm11 an11 cd11 ct11), sl11⟩)
    (c11 : PySem.W.codeIn K cd11 "law" = true)
    (k11 : PySem.W.keepIn K (.ref f11) = true)
    (m0 : PySem.W.nsIn K mainGlobals "MOST_PEOPLE" = some (some (.int 12 t0)))
    (m1 : PySem.W.nsIn K mainGlobals "MOST_HEIGHT" = some (some (.int 999 t1)))
    (z0 : PySem.W.nsIn K mainGlobals "all" = some none)
    (z1 : PySem.W.nsIn K mainGlobals "range" = some none)
    (z2 : PySem.W.nsIn K mainGlobals "max" = some none)
    (z3 : PySem.W.nsIn K mainGlobals "min" = some none)
    (z4 : PySem.W.nsIn K mainGlobals "len" = some none)
    (z5 : PySem.W.nsIn K mainGlobals "abs" = some none)
    (z6 : PySem.W.nsIn K mainGlobals "list" = some none)
    (z7 : PySem.W.nsIn K mainGlobals "isinstance" = some none)
    (z8 : PySem.W.nsIn K mainGlobals "bool" = some none)
    (z9 : PySem.W.nsIn K mainGlobals "tuple" = some none)
    (z10 : PySem.W.nsIn K mainGlobals "set" = some none)
    (z11 : PySem.W.nsIn K mainGlobals "int" = some none)
    (z12 : PySem.W.nsIn K mainGlobals "enumerate" = some none)
    (z13 : PySem.W.nsIn K mainGlobals "divmod" = some none)
    (z14 : PySem.W.nsIn K mainGlobals "sorted" = some none) :
    ∃ fd, (∀ (s : Shared) (u : Value), BindsTo s fd ⟨[u], []⟩ [("_law_script", u)]) ∧ Fun K d_law.name d_law.name d_law.st fa fd ∧ Txt K mg tG tB tT := by
  have e := hfa.symm.trans (PySem.W.mg_of X G a11)
  cases e
  have F0 : Fun K d_is_integer.name d_is_integer.name d_is_integer.st f0 _ := fun_mk l0 c0 k0
  have F1 : Fun K d_is_height.name d_is_height.name d_is_height.st f1 _ := fun_mk l1 c1 k1
  have F2 : Fun K d_is_row.name d_is_row.name d_is_row.st f2 _ := fun_mk l2 c2 k2
  have F3 : Fun K d__law_cell.name d__law_cell.name d__law_cell.st f3 _ := fun_mk l3 c3 k3
  have F4 : Fun K d__law_pool.name d__law_pool.name d__law_pool.st f4 _ := fun_mk l4 c4 k4
  have F5 : Fun K d__law_draw.name d__law_draw.name d__law_draw.st f5 _ := fun_mk l5 c5 k5
  have F6 : Fun K d__law_heights.name d__law_heights.name d__law_heights.st f6 _ := fun_mk l6 c6 k6
  have F7 : Fun K d__law_row.name d__law_row.name d__law_row.st f7 _ := fun_mk l7 c7 k7
  have F8 : Fun K d__law_is_row.name d__law_is_row.name d__law_is_row.st f8 _ := fun_mk l8 c8 k8
  have F9 : Fun K d__law_bent.name d__law_bent.name d__law_bent.st f9 _ := fun_mk l9 c9 k9
  have F10 : Fun K d__law_right.name d__law_right.name d__law_right.st f10 _ := fun_mk l10 c10 k10
  have F11 : Fun K d_law.name d_law.name d_law.st fa _ := fun_mk l11 c11 k11
  have en : Entries K mg tT tG := ⟨⟨d_is_integer, rfl, rfl, _, _, F0, PySem.W.mg_of X G a0, (sh_cons (fun s us ws X h1 h2 => match us, ws, h1, h2 with | [u0, u1, u2], [], _, _ => ⟨[], [u0, u1, u2], .nil, rfl, rfl, .of_eq rfl⟩) sh_nil)⟩,
    ⟨d_is_height, rfl, rfl, _, _, F1, PySem.W.mg_of X G a1, (sh_cons (fun s us ws X h1 h2 => match us, ws, h1, h2 with | [u0], [], _, _ => ⟨[], [u0], .nil, rfl, rfl, .of_eq rfl⟩) sh_nil)⟩,
    ⟨d_is_row, rfl, rfl, _, _, F2, PySem.W.mg_of X G a2, (sh_cons (fun s us ws X h1 h2 => match us, ws, h1, h2 with | [u0], [], _, _ => ⟨[], [u0], .nil, rfl, rfl, .of_eq rfl⟩) (sh_cons (fun s us ws X h1 h2 => match us, ws, h1, h2 with | [], [w0], _, _ => ⟨[], [w0], .nil, rfl, rfl, .of_eq rfl⟩) sh_nil))⟩,
    ⟨d__law_cell, rfl, rfl, _, _, F3, PySem.W.mg_of X G a3, (sh_cons (fun s us ws X h1 h2 => match us, ws, h1, h2 with | [u0, u1], [], _, _ => ⟨[], [u0, u1], .nil, rfl, rfl, .of_eq rfl⟩) sh_nil)⟩,
    ⟨d__law_pool, rfl, rfl, _, _, F4, PySem.W.mg_of X G a4, (sh_cons (fun s us ws X h1 h2 => match us, ws, h1, h2 with | [u0], [], _, _ => ⟨[], [u0], .nil, rfl, rfl, .of_eq rfl⟩) sh_nil)⟩,
    ⟨d__law_draw, rfl, rfl, _, _, F5, PySem.W.mg_of X G a5, (sh_cons (fun s us ws X h1 h2 => match us, ws, h1, h2 with | [u0, u1], [], _, _ => ⟨[], [u0, u1], .nil, rfl, rfl, .of_eq rfl⟩) sh_nil)⟩,
    ⟨d__law_heights, rfl, rfl, _, _, F6, PySem.W.mg_of X G a6, (sh_cons (fun s us ws X h1 h2 => match us, ws, h1, h2 with | [u0, u1], [], _, _ => ⟨[], [u0, u1], .nil, rfl, rfl, .of_eq rfl⟩) sh_nil)⟩,
    ⟨d__law_row, rfl, rfl, _, _, F7, PySem.W.mg_of X G a7, (sh_cons (fun s us ws X h1 h2 => match us, ws, h1, h2 with | [u0, u1, u2], [], _, _ => ⟨[], [u0, u1, u2], .nil, rfl, rfl, .of_eq rfl⟩) sh_nil)⟩,
    ⟨d__law_is_row, rfl, rfl, _, _, F8, PySem.W.mg_of X G a8, (sh_cons (fun s us ws X h1 h2 => match us, ws, h1, h2 with | [u0], [], _, _ => ⟨[], [u0], .nil, rfl, rfl, .of_eq rfl⟩) sh_nil)⟩,
    ⟨d__law_bent, rfl, rfl, _, _, F9, PySem.W.mg_of X G a9, (sh_cons (fun s us ws X h1 h2 => match us, ws, h1, h2 with | [u0, u1], [], _, _ => ⟨[], [u0, u1], .nil, rfl, rfl, .of_eq rfl⟩) sh_nil)⟩,
    ⟨d__law_right, rfl, rfl, _, _, F10, PySem.W.mg_of X G a10, (sh_cons (fun s us ws X h1 h2 => match us, ws, h1, h2 with | [u0], [], _, _ => ⟨[], [u0], .nil, rfl, rfl, .of_eq rfl⟩) sh_nil)⟩,
    ⟨d_law, rfl, rfl, _, _, F11, PySem.W.mg_of X G a11, (sh_cons (fun s us ws X h1 h2 => match us, ws, h1, h2 with | [u0], [], _, _ => ⟨[], [u0], .nil, rfl, rfl, .of_eq rfl⟩) sh_nil)⟩,
    con_int (PySem.W.mg_of X G m0),
    con_int (PySem.W.mg_of X G m1), trivial⟩
  have df : DefsOk K tT := ⟨⟨_, _, F0, sc_is_integer, by decide +kernel⟩, ⟨_, _, F1, sc_is_height, by decide +kernel⟩, ⟨_, _, F2, sc_is_row, by decide +kernel⟩, ⟨_, _, F3, sc__law_cell, by decide +kernel⟩, ⟨_, _, F4, sc__law_pool, by decide +kernel⟩, ⟨_, _, F5, sc__law_draw, by decide +kernel⟩, ⟨_, _, F6, sc__law_heights, by decide +kernel⟩, ⟨_, _, F7, sc__law_row, by decide +kernel⟩, ⟨_, _, F8, sc__law_is_row, by decide +kernel⟩, ⟨_, _, F9, sc__law_bent, by decide +kernel⟩, ⟨_, _, F10, sc__law_right, by decide +kernel⟩, ⟨_, _, F11, sc_law, by decide +kernel⟩, trivial⟩
  exact ⟨_, fun s u => .of_eq rfl, F11, txt_of (blt_cons (PySem.W.mg_none_of X G z0) (blt_cons (PySem.W.mg_none_of X G z1) (blt_cons (PySem.W.mg_none_of X G z2) (blt_cons (PySem.W.mg_none_of X G z3) (blt_cons (PySem.W.mg_none_of X G z4) (blt_cons (PySem.W.mg_none_of X G z5) (blt_cons (PySem.W.mg_none_of X G z6) (blt_cons (PySem.W.mg_none_of X G z7) (blt_cons (PySem.W.mg_none_of X G z8) (blt_cons (PySem.W.mg_none_of X G z9) (blt_cons (PySem.W.mg_none_of X G z10) (blt_cons (PySem.W.mg_none_of X G z11) (blt_cons (PySem.W.mg_none_of X G z12) (blt_cons (PySem.W.mg_none_of X G z13) (blt_cons (PySem.W.mg_none_of X G z14) blt_nil))))))))))))))) en df⟩
end Law
open PySem PySem.W PyProof.Rows in
set_option maxRecDepth 100000 in
set_option maxHeartbeats 0 in
theorem PySem.Challenge.cw_lastpasses_k01_rows_told_holds : PySem.Challenge.rw_lastpasses_k01_rows_told.Holds := by
  w_on; o_law; k_head; (case hw => w_witness2)
  k_fill
  refine PyI.law_M (l := PySem.Challenge.rw_lastpasses_k01_rows_told) (n := 63) (k := 20) (i := 11) (di := Law.d_law) (G := Law.tG) (B := Law.tB) (T := Law.tT) rfl (by decide) rfl ⟨rfl, by decide, by decide⟩ (fun w h Y => PySem.W.kIn_of Y) rfl rfl Law.says ?F
  case F =>
    intro w mg fa h KX G hmg
    refine' Law.all_mk KX G hmg ?a0 ?l0 ?c0 ?k0 ?a1 ?l1 ?c1 ?k1 ?a2 ?l2 ?c2 ?k2 ?a3 ?l3 ?c3 ?k3 ?a4 ?l4 ?c4 ?k4 ?a5 ?l5 ?c5 ?k5 ?a6 ?l6 ?c6 ?k6 ?a7 ?l7 ?c7 ?k7 ?a8 ?l8 ?c8 ?k8 ?a9 ?l9 ?c9 ?k9 ?a10 ?l10 ?c10 ?k10 ?a11 ?l11 ?c11 ?k11 ?m0 ?m1 ?z0 ?z1 ?z2 ?z3 ?z4 ?z5 ?z6 ?z7 ?z8 ?z9 ?z10 ?z11 ?z12 ?z13 ?z14
    (case a0 => k_is)
    (case l0 => k_is)
    (case c0 => k_is)
    (case k0 => k_is)
    (case a1 => k_is)
    (case l1 => k_is)
    (case c1 => k_is)
    (case k1 => k_is)
    (case a2 => k_is)
    (case l2 => k_is)
    (case c2 => k_is)
    (case k2 => k_is)
    (case a3 => k_is)
    (case l3 => k_is)
    (case c3 => k_is)
    (case k3 => k_is)
    (case a4 => k_is)
    (case l4 => k_is)
    (case c4 => k_is)
    (case k4 => k_is)
    (case a5 => k_is)
    (case l5 => k_is)
    (case c5 => k_is)
    (case k5 => k_is)
    (case a6 => k_is)
    (case l6 => k_is)
    (case c6 => k_is)
    (case k6 => k_is)
    (case a7 => k_is)
    (case l7 => k_is)
    (case c7 => k_is)
    (case k7 => k_is)
    (case a8 => k_is)
    (case l8 => k_is)
    (case c8 => k_is)
    (case k8 => k_is)
    (case a9 => k_is)
    (case l9 => k_is)
    (case c9 => k_is)
    (case k9 => k_is)
    (case a10 => k_is)
    (case l10 => k_is)
    (case c10 => k_is)
    (case k10 => k_is)
    (case a11 => k_is)
    (case l11 => k_is)
    (case c11 => k_is)
    (case k11 => k_is)
    (case m0 => k_is)
    (case m1 => k_is)
    (case z0 => k_is)
    (case z1 => k_is)
    (case z2 => k_is)
    (case z3 => k_is)
    (case z4 => k_is)
    (case z5 => k_is)
    (case z6 => k_is)
    (case z7 => k_is)
    (case z8 => k_is)
    (case z9 => k_is)
    (case z10 => k_is)
    (case z11 => k_is)
    (case z12 => k_is)
    (case z13 => k_is)
    (case z14 => k_is)

