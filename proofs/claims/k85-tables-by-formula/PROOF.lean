import PyProof.Rows.All
import Wide.All
import OpenK.AllK
import Wide.FinOn
import HandS.ForMost
import HandS.Exc
import HandS.Wide
import HandS.Zip
import HandS.RaiseMore
import HandS.TupAny
import HandS.Deep
import HandS.IsInst
import HandS.SortInts
import HandS.Flow
import HandS.Style
import HandS.WordsExc
import HandS.Defaults
import PyProof.ReprRoads
import KE.GoesMore
import KE.GoesEnum
import KE.KDictZip
import PyProof.ListNew
import HandS.Keys
import HandS.TryOnly
import PySem.Challenge.RW_equalruns_k85_whole_tables_by_formula
import KE.KStateDown
import Lean
import HandS.Words
import HandS.Head0
import HandS.Head1
import HandS.Head2
import HandS.HeadEnd
import HandS.HeadHook1
import HandS.HeadHook2
import HandS.HeadNt
set_option Elab.async false
set_option linter.all false
set_option maxRecDepth 100000
set_option maxHeartbeats 4000000
namespace VL
open PySem PySem.Spec PyProof.Rows L2
abbrev St := L2.St

/-! ### values as trees -/
inductive D where
  | non
  | bl (b : Bool)
  | int (i : Int)
  | str (s : Str)
  | lst (ds : List D)
  | tup (ds : List D)
  | dic (ks : List Key) (ds : List D)
  | scr (ns : List Int)
  | pot
  | raw (v : V)

/-- the frozen part of the heap; the pots -/
structure Wd where
  F : Hp
  P : Addr → Prop
structure Wd.le (W W' : Wd) : Prop where
  F : Same W.F W'.F
  P : ∀ a, W.P a → W'.P a
theorem Wd.le.refl {W : Wd} : W.le W := ⟨Same.refl _, fun _ h => h⟩
theorem Wd.le.trans {W W' W'' : Wd} (h : W.le W') (h' : W'.le W'') : W.le W'' := ⟨h.F.trans h'.F, fun a p => h'.P a (h.P a p)⟩

/-- a tuple: laid by somebody and frozen, or one of the module's own -/
def TupAt (K : PySem.W.Frag) (F : Hp) (a : Addr) (xs : List V) : Prop :=
  F a = some (.tup xs) ∨ ∃ (o : Obj) (its : Array Value) (n : Nat), K.lookup a = some o ∧ o.cls = .type "tuple" ∧ o.data = .seq its n ∧ its.size ≤ sizeLine ∧ Vals xs its.toList
theorem TupAt.sq {K : PySem.W.Frag} {F H : Hp} {a : Addr} {xs : List V} (h : TupAt K F a xs) (s : Same F H) : SqT K H a xs := by
  rcases h with h | h
  · exact .inl (.inl (s _ _ h))
  · exact .inr h
theorem TupAt.mono {K : PySem.W.Frag} {F H : Hp} {a : Addr} {xs : List V} (h : TupAt K F a xs) (s : Same F H) : TupAt K H a xs := by
  rcases h with h | h
  · exact .inl (s _ _ h)
  · exact .inr h
mutual
inductive Rep (K : PySem.W.Frag) (W : Wd) : V → D → Prop
  | non : Rep K W .non .non
  | bl (b : Bool) : Rep K W (.bl b) (.bl b)
  | int (i : Int) : Rep K W (.int i) (.int i)
  | str (s : Str) : Rep K W (.str s) (.str s)
  | lst {a : Addr} {xs : List V} {ds : List D} : W.F a = some (.lst xs) → xs.length ≤ sizeLine → RepA K W xs ds → Rep K W (.ref a) (.lst ds)
  | tup {a : Addr} {xs : List V} {ds : List D} : TupAt K W.F a xs → xs.length ≤ sizeLine → RepA K W xs ds → Rep K W (.ref a) (.tup ds)
  | dic {a : Addr} {ks : List Key} {xs : List V} {ds : List D} : W.F a = some (.dK (ks.zip xs)) → ks.length = xs.length → RepA K W xs ds → Rep K W (.ref a) (.dic ks ds)
  | scr {a : Addr} {ns : List Int} : SqL K W.F a (ns.map V.int) → Rep K W (.ref a) (.scr ns)
  | pot {a : Addr} : W.P a → Rep K W (.ref a) .pot
  | raw (v : V) : Rep K W v (.raw v)
inductive RepA (K : PySem.W.Frag) (W : Wd) : List V → List D → Prop
  | nil : RepA K W [] []
  | cons {v : V} {d : D} {vs : List V} {ds : List D} : Rep K W v d → RepA K W vs ds → RepA K W (v :: vs) (d :: ds)
end

section
variable {K : PySem.W.Frag} {W W' : Wd}
theorem Same.seqT {H H' : Hp} {a : Addr} {xs : List V} (e : Same H H') (h : SqT K H a xs) : SqT K H' a xs := by
  rcases h with (h | ⟨o, h⟩) | h
  · exact .inl (.inl (e _ _ h))
  · exact .inl (.inr ⟨o, e _ _ h⟩)
  · exact .inr h
mutual
theorem Rep.mono (l : W.le W') : ∀ {v : V} {d : D}, Rep K W v d → Rep K W' v d
  | _, _, .non => .non
  | _, _, .bl b => .bl b
  | _, _, .int i => .int i
  | _, _, .str s => .str s
  | _, _, .lst h z r => .lst (l.F _ _ h) z (RepA.mono l r)
  | _, _, .scr h => .scr (l.F.seq h)
  | _, _, .tup h z r => .tup (h.mono l.F) z (RepA.mono l r)
  | _, _, .dic h z r => .dic (l.F _ _ h) z (RepA.mono l r)
  | _, _, .pot p => .pot (l.P _ p)
  | _, _, .raw v => .raw v
theorem RepA.mono (l : W.le W') : ∀ {vs : List V} {ds : List D}, RepA K W vs ds → RepA K W' vs ds
  | _, _, .nil => .nil
  | _, _, .cons r t => .cons (Rep.mono l r) (RepA.mono l t)
end
theorem RepA.length : ∀ {vs : List V} {ds : List D}, RepA K W vs ds → vs.length = ds.length
  | _, _, .nil => rfl
  | _, _, .cons _ t => congrArg (· + 1) t.length
theorem RepA.get : ∀ {vs : List V} {ds : List D} {i : Nat} {v : V}, RepA K W vs ds → vs[i]? = some v → ∃ d, ds[i]? = some d ∧ Rep K W v d
  | _, _, _, _, .nil, e => by simp at e
  | _, _, 0, _, .cons r _, e => by simp at e; subst e; exact ⟨_, rfl, r⟩
  | _, _, i + 1, v, .cons _ t, e => by
    obtain ⟨d, h1, h2⟩ := RepA.get (i := i) (v := v) t (by simpa using e)
    exact ⟨d, by simpa using h1, h2⟩
theorem RepA.getD : ∀ {vs : List V} {ds : List D} {i : Nat} {d : D}, RepA K W vs ds → ds[i]? = some d → ∃ v, vs[i]? = some v ∧ Rep K W v d
  | _, _, _, _, .nil, e => by simp at e
  | _, _, 0, _, .cons r _, e => by simp at e; subst e; exact ⟨_, rfl, r⟩
  | _, _, i + 1, d, .cons _ t, e => by
    obtain ⟨v, h1, h2⟩ := RepA.getD (i := i) (d := d) t (by simpa using e)
    exact ⟨v, by simpa using h1, h2⟩
theorem RepA.of_get : ∀ {vs : List V} {ds : List D}, vs.length = ds.length → (∀ (i : Nat) v d, vs[i]? = some v → ds[i]? = some d → Rep K W v d) → RepA K W vs ds
  | [], [], _, _ => .nil
  | [], _ :: _, h, _ => by simp at h
  | _ :: _, [], h, _ => by simp at h
  | v :: vs, d :: ds, h, q => .cons (q 0 v d rfl rfl) (RepA.of_get (by simpa using h) fun i v' d' h1 h2 => q (i + 1) v' d' (by simpa using h1) (by simpa using h2))
theorem RepA.append : ∀ {vs ws : List V} {ds es : List D}, RepA K W vs ds → RepA K W ws es → RepA K W (vs ++ ws) (ds ++ es)
  | _, _, _, _, .nil, s => s
  | _, _, _, _, .cons r t, s => .cons r (RepA.append t s)
theorem RepA.take : ∀ {vs : List V} {ds : List D} (n : Nat), RepA K W vs ds → RepA K W (vs.take n) (ds.take n)
  | _, _, 0, _ => by simpa using RepA.nil
  | _, _, _ + 1, .nil => by simpa using RepA.nil
  | _, _, n + 1, .cons r t => .cons r (RepA.take n t)
theorem RepA.drop : ∀ {vs : List V} {ds : List D} (n : Nat), RepA K W vs ds → RepA K W (vs.drop n) (ds.drop n)
  | _, _, 0, r => r
  | _, _, _ + 1, .nil => by simpa using RepA.nil
  | _, _, n + 1, .cons _ t => RepA.drop n t
theorem RepA.reverse {vs : List V} {ds : List D} (r : RepA K W vs ds) : RepA K W vs.reverse ds.reverse := by
  induction vs generalizing ds with
  | nil => cases r; exact .nil
  | cons v vs ih =>
    cases r with
    | cons r t =>
      rw [List.reverse_cons, List.reverse_cons]
      exact (ih t).append (.cons r .nil)
theorem RepA.set {v : V} {d : D} (q : Rep K W v d) : ∀ {vs : List V} {ds : List D} (i : Nat), RepA K W vs ds → RepA K W (vs.set i v) (ds.set i d)
  | _, _, _, .nil => .nil
  | _, _, 0, .cons _ t => .cons q t
  | _, _, i + 1, .cons r t => .cons r (RepA.set q i t)
theorem RepA.eraseIdx : ∀ {vs : List V} {ds : List D} (i : Nat), RepA K W vs ds → RepA K W (vs.eraseIdx i) (ds.eraseIdx i)
  | _, _, _, .nil => .nil
  | _, _, 0, .cons _ t => t
  | _, _, i + 1, .cons r t => .cons r (RepA.eraseIdx i t)
theorem RepA.dropLast {vs : List V} {ds : List D} (r : RepA K W vs ds) : RepA K W vs.dropLast ds.dropLast := by
  rw [List.dropLast_eq_take, List.dropLast_eq_take, r.length]
  exact r.take _
theorem RepA.flatten_replicate {vs : List V} {ds : List D} (r : RepA K W vs ds) : ∀ n : Nat, RepA K W (List.replicate n vs).flatten (List.replicate n ds).flatten
  | 0 => .nil
  | n + 1 => by
    rw [List.replicate_succ, List.replicate_succ, List.flatten_cons, List.flatten_cons]
    exact r.append (RepA.flatten_replicate r n)
theorem RepA.ints : ∀ {vs : List V} {ns : List Int}, RepA K W vs (ns.map D.int) → vs = ns.map V.int
  | [], [], _ => rfl
  | _ :: _, [], h => by cases h
  | [], _ :: _, h => by cases h
  | v :: vs, n :: ns, h => by
    cases h with
    | cons r t =>
      cases r
      rw [List.map_cons, RepA.ints t]
theorem RepA.of_ints : ∀ {ns : List Int}, RepA K W (ns.map V.int) (ns.map D.int)
  | [] => .nil
  | _ :: _ => .cons (.int _) RepA.of_ints
theorem RepA.bools : ∀ {vs : List V} {bs : List Bool}, RepA K W vs (bs.map D.bl) → vs = bs.map V.bl
  | [], [], _ => rfl
  | _ :: _, [], h => by cases h
  | [], _ :: _, h => by cases h
  | v :: vs, n :: ns, h => by
    cases h with
    | cons r t =>
      cases r
      rw [List.map_cons, RepA.bools t]
theorem RepA.strs : ∀ {vs : List V} {ss : List Str}, RepA K W vs (ss.map D.str) → vs = ss.map V.str
  | [], [], _ => rfl
  | _ :: _, [], h => by cases h
  | [], _ :: _, h => by cases h
  | v :: vs, n :: ns, h => by
    cases h with
    | cons r t =>
      cases r
      rw [List.map_cons, RepA.strs t]
theorem RepA.of_strs : ∀ {ns : List Str}, RepA K W (ns.map V.str) (ns.map D.str)
  | [] => .nil
  | _ :: _ => .cons (.str _) RepA.of_strs
end

/-! ### worlds over heaps -/
def PotOk (o : HO) : Prop := ∃ i j : Int, o = .lst [.int i, .int j] ∧ 0 ≤ i ∧ 0 ≤ j ∧ j < 2147483648
structure WOk (W : Wd) (H : Hp) : Prop where
  same : Same W.F H
  pot : ∀ a, W.P a → W.F a = none ∧ ∃ o, H a = some o ∧ PotOk o
structure Step (W : Wd) (H : Hp) (W' : Wd) (H' : Hp) : Prop where
  le : W.le W'
  keep : ∀ a o, H a = some o → ¬ W.P a → H' a = some o
  newF : ∀ a o, W'.F a = some o → W.F a = some o ∨ H a = none
  newP : ∀ a, W'.P a → W.P a ∨ H a = none
  there : ∀ a o, H a = some o → ∃ o', H' a = some o'
theorem Step.refl {W : Wd} {H : Hp} : Step W H W H := ⟨.refl, fun _ _ h _ => h, fun _ _ h => .inl h, fun _ h => .inl h, fun _ o h => ⟨o, h⟩⟩
theorem Step.none_of {W W' : Wd} {H H' : Hp} (s : Step W H W' H') {a : Addr} (h : H' a = none) : H a = none := by
  cases e : H a with
  | none => rfl
  | some o =>
    obtain ⟨o', e'⟩ := s.there a o e
    rw [h] at e'; cases e'
theorem Step.trans {W W1 W2 : Wd} {H H1 H2 : Hp} (s : Step W H W1 H1) (t : Step W1 H1 W2 H2) : Step W H W2 H2 where
  le := s.le.trans t.le
  keep := fun a o h n => t.keep a o (s.keep a o h n) fun p => by
    rcases s.newP a p with q | q
    · exact n q
    · rw [h] at q; cases q
  newF := fun a o h => by
    rcases t.newF a o h with q | q
    · exact s.newF a o q
    · exact .inr (s.none_of q)
  newP := fun a h => by
    rcases t.newP a h with q | q
    · exact s.newP a q
    · exact .inr (s.none_of q)
  there := fun a o h => by
    obtain ⟨o', h'⟩ := s.there a o h
    exact t.there a o' h'
/-- a new object that stays as it is -/
def Wd.add (W : Wd) (p : Addr) (o : HO) : Wd := ⟨upd W.F p o, W.P⟩
theorem WOk.noF {W : Wd} {H : Hp} (w : WOk W H) {p : Addr} (h : H p = none) : W.F p = none := w.same.free h
theorem WOk.noP {W : Wd} {H : Hp} (w : WOk W H) {p : Addr} (h : H p = none) : ¬ W.P p := fun q => by
  obtain ⟨_, o, e, _⟩ := w.pot p q
  rw [h] at e; cases e
theorem Wd.le_add {W : Wd} {p : Addr} {o : HO} (h : W.F p = none) : W.le (W.add p o) := ⟨fun b x e => by
  show upd W.F p o b = some x
  rw [upd_ne (ne_of_none e h)]
  exact e, fun _ h => h⟩
theorem WOk.add {W : Wd} {H : Hp} (w : WOk W H) {p : Addr} {o : HO} (h : H p = none) : WOk (W.add p o) (upd H p o) where
  same := fun b x e => by
    by_cases hb : b = p
    · subst hb
      have e' : upd W.F b o b = some x := e
      rw [upd_same] at e' ⊢
      exact e'
    · have e' : upd W.F p o b = some x := e
      rw [upd_ne hb] at e' ⊢
      exact w.same b x e'
  pot := fun a q => by
    obtain ⟨e, o', e', z⟩ := w.pot a q
    have ha : a ≠ p := ne_of_none e' h
    refine ⟨?_, o', ?_, z⟩
    · show upd W.F p o a = none
      rw [upd_ne ha]; exact e
    · rw [upd_ne ha]; exact e'
theorem Step.add {W : Wd} {H : Hp} (w : WOk W H) {p : Addr} {o : HO} (h : H p = none) : Step W H (W.add p o) (upd H p o) where
  le := Wd.le_add (w.noF h)
  keep := fun a x e _ => by rw [upd_ne (ne_of_none e h)]; exact e
  newF := fun a x e => by
    have e' : upd W.F p o a = some x := e
    by_cases ha : a = p
    · subst ha; exact .inr h
    · rw [upd_ne ha] at e'; exact .inl e'
  newP := fun a q => .inl q
  there := fun a x e => ⟨x, by rw [upd_ne (ne_of_none e h)]; exact e⟩
/-- a new object that nobody else knows -/
theorem Step.new {W : Wd} {H : Hp} (w : WOk W H) {p : Addr} {o : HO} (h : H p = none) : Step W H W (upd H p o) where
  le := .refl
  keep := fun a x e _ => by rw [upd_ne (ne_of_none e h)]; exact e
  newF := fun a x e => .inl e
  newP := fun a q => .inl q
  there := fun a x e => ⟨x, by rw [upd_ne (ne_of_none e h)]; exact e⟩
theorem WOk.new {W : Wd} {H : Hp} (w : WOk W H) {p : Addr} {o : HO} (h : H p = none) : WOk W (upd H p o) where
  same := fun b x e => by
    rw [upd_ne (ne_of_none (w.same b x e) h)]
    exact w.same b x e
  pot := fun a q => by
    obtain ⟨e, o', e', z⟩ := w.pot a q
    exact ⟨e, o', by rw [upd_ne (ne_of_none e' h)]; exact e', z⟩
/-- an own object is written -/
theorem WOk.write {W : Wd} {H : Hp} (w : WOk W H) {p : Addr} {o : HO} (hF : W.F p = none) (hP : ¬ W.P p) : WOk W (upd H p o) where
  same := fun b x e => by
    rw [upd_ne (ne_of_none e hF)]
    exact w.same b x e
  pot := fun a q => by
    obtain ⟨e, o', e', z⟩ := w.pot a q
    exact ⟨e, o', by rw [upd_ne (by rintro rfl; exact hP q)]; exact e', z⟩
/-- an own object is frozen -/
theorem WOk.freeze {W : Wd} {H : Hp} (w : WOk W H) {p : Addr} {o : HO} (h : H p = some o) (hF : W.F p = none) (hP : ¬ W.P p) : WOk (W.add p o) H where
  same := fun b x e => by
    have e' : upd W.F p o b = some x := e
    by_cases hb : b = p
    · subst hb; rw [upd_same] at e'; rw [h]; exact e'
    · rw [upd_ne hb] at e'; exact w.same b x e'
  pot := fun a q => by
    obtain ⟨e, o', e', z⟩ := w.pot a q
    refine ⟨?_, o', e', z⟩
    show upd W.F p o a = none
    rw [upd_ne (by rintro rfl; exact hP q)]; exact e

/-! ### a def's names -/
inductive S where
  | un
  | val (d : D)
  | own (ds : List D)
abbrev Ev := List S

/-- what stays through a def's body: the module's facts, the entry -/
structure VC where
  K : PySem.W.Frag
  W0 : Wd
  H0 : Hp
structure EOk (K : PySem.W.Frag) (W : Wd) (H0 H : Hp) (ε : Ev) (σ : St) : Prop where
  len : ε.length = σ.length
  val : ∀ (i : Nat) d, ε[i]? = some (S.val d) → ∃ v, σ[i]? = some (some v) ∧ Rep K W v d
  own : ∀ (i : Nat) ds, ε[i]? = some (S.own ds) → ∃ a xs, σ[i]? = some (some (V.ref a)) ∧ H a = some (.lst xs) ∧ RepA K W xs ds ∧ xs.length ≤ sizeLine ∧ W.F a = none ∧ ¬ W.P a ∧ H0 a = none
  ne : ∀ (i j : Nat) ds es a, i ≠ j → ε[i]? = some (S.own ds) → ε[j]? = some (S.own es) → σ[i]? = some (some (V.ref a)) → σ[j]? = some (some (V.ref a)) → False
structure COk (C : VC) (W : Wd) (H : Hp) (ε : Ev) (σ : St) : Prop where
  w : WOk W H
  st : Step C.W0 C.H0 W H
  e : EOk C.K W C.H0 H ε σ

theorem EOk.step {K : PySem.W.Frag} {W W' : Wd} {H0 H H' : Hp} {ε : Ev} {σ : St} (e : EOk K W H0 H ε σ) (s : Step W H W' H') : EOk K W' H0 H' ε σ where
  len := e.len
  val := fun i d h => by
    obtain ⟨v, h1, h2⟩ := e.val i d h
    exact ⟨v, h1, h2.mono s.le⟩
  own := fun i ds h => by
    obtain ⟨a, xs, h1, h2, h3, h4, h5, h6, h7⟩ := e.own i ds h
    refine ⟨a, xs, h1, s.keep a _ h2 h6, h3.mono s.le, h4, ?_, fun q => ?_, h7⟩
    · cases q : W'.F a with
      | none => rfl
      | some o =>
        rcases s.newF a o q with z | z
        · rw [h5] at z; cases z
        · rw [h2] at z; cases z
    · rcases s.newP a q with z | z
      · exact h6 z
      · rw [h2] at z; cases z
  ne := e.ne
theorem COk.step {C : VC} {W W' : Wd} {H H' : Hp} {ε : Ev} {σ : St} (c : COk C W H ε σ) (s : Step W H W' H') (w : WOk W' H') : COk C W' H' ε σ := ⟨w, c.st.trans s, c.e.step s⟩

/-! ### readings by trees -/
abbrev WE := Ev → (D → Prop) → Prop
abbrev WT := Ev → (Bool → Prop) → Prop
abbrev WA := Ev → (List D → Prop) → Prop
def liftE (C : VC) (w : WE) : TE := fun σ H Q => ∃ W ε R, COk C W H ε σ ∧ w ε R ∧ ∀ d v W' H', Step W H W' H' → WOk W' H' → Rep C.K W' v d → R d → Q v H'
def liftT (C : VC) (w : WT) : TT := fun σ H Q => ∃ W ε R, COk C W H ε σ ∧ w ε R ∧ ∀ b W' H', Step W H W' H' → WOk W' H' → R b → Q b H'
def liftA (C : VC) (w : WA) : TA := fun σ H Q => ∃ W ε R, COk C W H ε σ ∧ w ε R ∧ ∀ ds vs W' H', Step W H W' H' → WOk W' H' → RepA C.K W' vs ds → R ds → Q vs H'
/-- a new list that nobody else knows -/
def liftN (C : VC) (w : WA) : TE := fun σ H Q => ∃ W ε R, COk C W H ε σ ∧ w ε R ∧ ∀ ds a xs W' H', Step W H W' H' → WOk W' H' → H' a = some (.lst xs) → RepA C.K W' xs ds → xs.length ≤ sizeLine → W'.F a = none → ¬ W'.P a → H a = none → R ds → Q (.ref a) H'
abbrev VE (X : Cx) (C : VC) (e : Expr) (w : WE) : Prop := PE X e (liftE C w)
abbrev VN (X : Cx) (C : VC) (e : Expr) (w : WA) : Prop := PE X e (liftN C w)
abbrev VT (X : Cx) (C : VC) (e : Expr) (w : WT) : Prop := PT X e (liftT C w)
abbrev VA (X : Cx) (C : VC) (es : List Expr) (w : WA) : Prop := PA X es (liftA C w)

section
variable {X : Cx} {C : VC} {e : Expr} {es : List Expr}
theorem PE.imp {t t' : TE} (h : PE X e t) (i : ∀ σ H Q, t' σ H Q → t σ H Q) : PE X e t' := ⟨fun pins s σ H Q I q => h.run pins s σ H Q I (i _ _ _ q)⟩
theorem PT.imp {t t' : TT} (h : PT X e t) (i : ∀ σ H Q, t' σ H Q → t σ H Q) : PT X e t' := ⟨fun pins s σ H Q I q => h.run pins s σ H Q I (i _ _ _ q)⟩
theorem PA.imp {t t' : TA} (h : PA X es t) (i : ∀ σ H Q, t' σ H Q → t σ H Q) : PA X es t' := ⟨fun p pins s σ H Q I q => h.run p pins s σ H Q I (i _ _ _ q)⟩
theorem PS.imp {st : Stmt} {t t' : TS} (h : PS X st t) (i : ∀ D σ H, t' D σ H → t D σ H) : PS X st t' := ⟨fun pins s σ H D I q => h.run pins s σ H D I (i _ _ _ q)⟩
theorem PSs.imp {st : List Stmt} {t t' : TS} (h : PSs X st t) (i : ∀ D σ H, t' D σ H → t D σ H) : PSs X st t' := ⟨fun pins s σ H D I q => h.run pins s σ H D I (i _ _ _ q)⟩

/-- freezing what an expression makes -/
def eFrz (w : WA) : WE := fun ε R => w ε fun ds => R (.lst ds)
theorem frz_step {W : Wd} {H H' : Hp} {W' : Wd} {a : Addr} {o : HO} (s : Step W H W' H') (h : H' a = some o) (hF : W'.F a = none) (hn : H a = none) : Step W H (W'.add a o) H' where
  le := s.le.trans (Wd.le_add hF)
  keep := s.keep
  newF := fun b x e => by
    have e' : upd W'.F a o b = some x := e
    by_cases hb : b = a
    · subst hb; exact .inr hn
    · rw [upd_ne hb] at e'; exact s.newF b x e'
  newP := s.newP
  there := s.there
theorem ve_frz {w : WA} (h : VN X C e w) : VE X C e (eFrz w) := PE.imp h fun σ H Q q => by
  obtain ⟨W, ε, R, c, hw, k⟩ := q
  refine ⟨W, ε, _, c, hw, fun ds a xs W' H' s w' ha r z hF hP hn q => ?_⟩
  refine k (.lst ds) _ (W'.add a (.lst xs)) H' (frz_step s ha hF hn) (w'.freeze ha hF hP) ?_ q
  exact .lst upd_same z (r.mono (Wd.le_add hF))

/-! names, constants -/
def eVar (i : Nat) : WE := fun ε R => match ε[i]? with
  | some (.val d) => R d
  | _ => False
theorem ve_var (i : Nat) {x : Str} {pos : Pos} (hN : X.N[i]? = some x := by rfl) (hv : Vis X.env.scope x := by first | exact Or.inl rfl | exact Or.inr (Or.inl rfl) | exact Or.inr (Or.inr rfl)) (hd : (x == ("__debug__" : Str)) = false := by decide)
    (hcd : (x == ("__classdict__" : Str)) = false := by decide) : VE X C (.Name x pos) (eVar i) := PE.imp (pe_var hN hv hd hcd) fun σ H Q q => by
  obtain ⟨W, ε, R, c, hw, k⟩ := q
  unfold eVar at hw
  split at hw
  · rename_i d e
    obtain ⟨v, h1, h2⟩ := c.e.val i d e
    exact ⟨v, h1, k d v W H .refl c.w h2 hw⟩
  · exact hw.elim
def eC (d : D) : WE := fun _ R => R d
theorem ve_C {v : V} {d : D} (h : PE X e (tC v)) (r : ∀ W, Rep C.K W v d) : VE X C e (eC d) := PE.imp h fun σ H Q q => by
  obtain ⟨W, ε, R, c, hw, k⟩ := q
  exact k d v W H .refl c.w (r W) hw
theorem ve_int {i : Int} {j pos} : VE X C (.Constant (.int i) j pos) (eC (.int i)) := ve_C pe_int fun _ => .int i
theorem ve_bl {b : Bool} {j pos} : VE X C (.Constant (.bool b) j pos) (eC (.bl b)) := ve_C pe_bl fun _ => .bl b
theorem ve_non {j pos} : VE X C (.Constant .none j pos) (eC .non) := ve_C pe_non fun _ => .non
theorem ve_str {s : Str} {j pos} : VE X C (.Constant (.str s) j pos) (eC (.str s)) := ve_C pe_str fun _ => .str s
theorem ve_glob {x : Str} {u : Value} {v : V} {d : D} {pos : Pos} (hg : Gl X x) (hm : X.mg x = some u) (r : RelV v u) (q : ∀ W, Rep C.K W v d) (hdb : (x == ("__debug__" : Str)) = false := by decide) : VE X C (.Name x pos) (eC d) := ve_C (pe_glob hg hm r hdb) q

/-! rules by values -/
/-- what is left to show behind a value -/
abbrev Post (C : VC) (W : Wd) (H : Hp) (R : D → Prop) (Q : VK) : Prop := ∀ d v W' H', Step W H W' H' → WOk W' H' → Rep C.K W' v d → R d → Q v H'
theorem Post.after {W W1 : Wd} {H H1 : Hp} {R : D → Prop} {Q : VK} (k : Post C W H R Q) (s : Step W H W1 H1) : Post C W1 H1 R Q := fun d v W' H' t => k d v W' H' (s.trans t)
def VR1 (C : VC) (r : V → Hp → VK → Prop) (g : D → (D → Prop) → Prop) : Prop := ∀ W H x dx R Q, WOk W H → Rep C.K W x dx → g dx R → Post C W H R Q → r x H Q
def VR2 (C : VC) (r : R2) (g : D → D → (D → Prop) → Prop) : Prop := ∀ W H x y dx dy R Q, WOk W H → Rep C.K W x dx → Rep C.K W y dy → g dx dy R → Post C W H R Q → r x y H Q
def VRA (C : VC) (r : List V → Hp → VK → Prop) (g : List D → (D → Prop) → Prop) : Prop := ∀ W H xs ds R Q, WOk W H → RepA C.K W xs ds → g ds R → Post C W H R Q → r xs H Q
def e1 (g : D → (D → Prop) → Prop) (a : WE) : WE := fun ε R => a ε fun x => g x R
def e2 (g : D → D → (D → Prop) → Prop) (a b : WE) : WE := fun ε R => a ε fun x => b ε fun y => g x y R
def eA (g : List D → (D → Prop) → Prop) (a : WA) : WE := fun ε R => a ε fun xs => g xs R
theorem lift_t1 {r : V → Hp → VK → Prop} {g : D → (D → Prop) → Prop} {a : WE} (hr : VR1 C r g) {σ : St} {H : Hp} {Q : VK} (q : liftE C (e1 g a) σ H Q) : tUn r (liftE C a) σ H Q := by
  obtain ⟨W, ε, R, c, hw, k⟩ := q
  exact ⟨W, ε, _, c, hw, fun d v W' H' s w' rv q => hr W' H' v d R Q w' rv q (Post.after k s)⟩
theorem lift_t2 {r : R2} {g : D → D → (D → Prop) → Prop} {a b : WE} (hr : VR2 C r g) {σ : St} {H : Hp} {Q : VK} (q : liftE C (e2 g a b) σ H Q) : tOp r (liftE C a) (liftE C b) σ H Q := by
  obtain ⟨W, ε, R, c, hw, k⟩ := q
  refine ⟨W, ε, _, c, hw, fun x v W' H' s w' rv q => ⟨W', ε, _, c.step s w', q, fun y u W2 H2 s2 w2 ru q2 => ?_⟩⟩
  exact hr W2 H2 v u x y R Q w2 (rv.mono s2.le) ru q2 (Post.after k (s.trans s2))
theorem ve_op {op : Operator} {a b : Expr} {pos : Pos} {r : R2} {g : D → D → (D → Prop) → Prop} {wa wb : WE} (ho : OpR X (binaryOp op) r) (hr : VR2 C r g) (ha : VE X C a wa) (hb : VE X C b wb) : VE X C (.BinOp a op b pos) (e2 g wa wb) :=
  PE.imp (pe_op ho ha hb) fun _ _ _ q => lift_t2 hr q
theorem ve_un {op : UnaryOp} {a : Expr} {pos : Pos} {r : V → Hp → VK → Prop} {g : D → (D → Prop) → Prop} {wa : WE} (ho : UnR X (unaryOp op) r) (hr : VR1 C r g) (ha : VE X C a wa) : VE X C (.UnaryOp op a pos) (e1 g wa) :=
  PE.imp (pe_un ho ha) fun _ _ _ q => lift_t1 hr q

/-! arguments -/
def aNil : WA := fun _ R => R []
def aCons (a : WE) (t : WA) : WA := fun ε R => a ε fun x => t ε fun xs => R (x :: xs)
theorem va_nil : VA X C [] aNil := PA.imp pa_nil fun σ H Q q => by
  obtain ⟨W, ε, R, c, hw, k⟩ := q
  exact k [] [] W H .refl c.w .nil hw
theorem va_cons {a : WE} {t : WA} (ha : VE X C e a) (ht : VA X C es t) (hs : starEach (e :: es) X.env = (false, eval e X.env) :: starEach es X.env := by rfl) : VA X C (e :: es) (aCons a t) := PA.imp (pa_cons ha ht hs) fun σ H Q q => by
  obtain ⟨W, ε, R, c, hw, k⟩ := q
  refine ⟨W, ε, _, c, hw, fun x v W' H' s w' rv q => ⟨W', ε, _, c.step s w', q, fun ds vs W2 H2 s2 w2 ru q2 => ?_⟩⟩
  exact k _ _ W2 H2 (s.trans s2) w2 (.cons (rv.mono s2.le) ru) q2
/-- a tuple, a list of written items -/
def eTup (t : WA) : WE := fun ε R => t ε fun ds => ds.length ≤ sizeLine ∧ R (.tup ds)
def nLst (t : WA) : WA := fun ε R => t ε fun ds => ds.length ≤ sizeLine ∧ R ds
theorem ve_tup {x1 pos} {t : WA} (h : VA X C es t) : VE X C (.Tuple es x1 pos) (eTup t) := PE.imp (pe_tup h) fun σ H Q q => by
  obtain ⟨W, ε, R, c, hw, k⟩ := q
  refine ⟨W, ε, _, c, hw, fun ds vs W' H' s w' rv q => ⟨by rw [rv.length]; exact q.1, fun p np => ?_⟩⟩
  refine k _ _ (W'.add p (.tup vs)) _ (s.trans (Step.add w' np)) (w'.add np) ?_ q.2
  exact .tup (.inl upd_same) (by rw [rv.length]; exact q.1) (rv.mono (Step.add w' np).le)
theorem vn_lst {pos} {t : WA} (h : VA X C es t) : VN X C (.List es pos) (nLst t) := PE.imp (pe_lst h) fun σ H Q q => by
  obtain ⟨W, ε, R, c, hw, k⟩ := q
  refine ⟨W, ε, _, c, hw, fun ds vs W' H' s w' rv q => ⟨by rw [rv.length]; exact q.1, fun p np => ?_⟩⟩
  exact k ds p vs W' _ (s.trans (Step.new w' np)) (w'.new np) upd_same rv (by rw [rv.length]; exact q.1) (w'.noF np) (w'.noP np) (s.none_of np) q.2
end
end VL


set_option Elab.async false
set_option linter.all false
set_option maxRecDepth 100000
set_option maxHeartbeats 4000000
namespace VL
open PySem PySem.Spec PyProof.Rows L2

/-! ### what is wanted behind a statement -/
structure VEnds where
  nx : Ev → Prop
  rt : D → Prop
  rn : List D → Prop
  bk : Ev → Prop := fun _ => False
  ct : Ev → Prop := fun _ => False
abbrev WS := VEnds → Ev → Prop
structure EndsOk (C : VC) (W : Wd) (V : VEnds) (D' : Ends) : Prop where
  nx : ∀ W' H' ε σ, W.le W' → COk C W' H' ε σ → V.nx ε → D'.nx σ H'
  rt : ∀ v d W' H', W.le W' → Step C.W0 C.H0 W' H' → WOk W' H' → Rep C.K W' v d → V.rt d → D'.rt v H'
  rn : ∀ ds a xs W' H', W.le W' → Step C.W0 C.H0 W' H' → WOk W' H' → H' a = some (.lst xs) → RepA C.K W' xs ds → xs.length ≤ sizeLine → W'.F a = none → ¬ W'.P a → C.H0 a = none → V.rn ds → D'.rt (.ref a) H'
  bk : ∀ W' H' ε σ, W.le W' → COk C W' H' ε σ → V.bk ε → D'.bk σ H'
  ct : ∀ W' H' ε σ, W.le W' → COk C W' H' ε σ → V.ct ε → D'.ct σ H'
theorem EndsOk.mono {C : VC} {W W1 : Wd} {V : VEnds} {D' : Ends} (e : EndsOk C W V D') (l : W.le W1) : EndsOk C W1 V D' :=
  ⟨fun W' H' ε σ l' => e.nx W' H' ε σ (l.trans l'), fun v d W' H' l' => e.rt v d W' H' (l.trans l'), fun ds a xs W' H' l' => e.rn ds a xs W' H' (l.trans l'), fun W' H' ε σ l' => e.bk W' H' ε σ (l.trans l'), fun W' H' ε σ l' => e.ct W' H' ε σ (l.trans l')⟩
def liftS (C : VC) (t : WS) : TS := fun D' σ H => ∃ W ε V, COk C W H ε σ ∧ t V ε ∧ EndsOk C W V D'
abbrev VS (X : Cx) (C : VC) (st : Stmt) (t : WS) : Prop := PS X st (liftS C t)
abbrev VSs (X : Cx) (C : VC) (st : List Stmt) (t : WS) : Prop := PSs X st (liftS C t)

/-! ### stores into names -/
theorem getElem?_set' {α : Type} (l : List α) (i j : Nat) (x : α) (y : α) (h : (l.set i x)[j]? = some y) : (j = i ∧ y = x ∧ i < l.length) ∨ (j ≠ i ∧ l[j]? = some y) := by
  by_cases e : i = j
  · subst e
    by_cases hl : i < l.length
    · rw [List.getElem?_set_self hl] at h
      exact .inl ⟨rfl, (Option.some.inj h).symm, hl⟩
    · rw [List.getElem?_eq_none (by simpa using hl)] at h; cases h
  · rw [List.getElem?_set_ne e] at h
    exact .inr ⟨fun z => e z.symm, h⟩
theorem EOk.set {K : PySem.W.Frag} {W : Wd} {H0 H : Hp} {ε : Ev} {σ : St} (e : EOk K W H0 H ε σ) {i : Nat} {v : V} {d : D} (r : Rep K W v d) : EOk K W H0 H (ε.set i (.val d)) (σ.set i (some v)) where
  len := by simp [e.len]
  val := fun j d' h => by
    rcases getElem?_set' _ _ _ _ _ h with ⟨rfl, h1, h2⟩ | ⟨h1, h2⟩
    · cases h1
      exact ⟨v, by rw [List.getElem?_set_self (by rw [← e.len]; exact h2)], r⟩
    · obtain ⟨v', q1, q2⟩ := e.val j d' h2
      exact ⟨v', by rw [List.getElem?_set_ne (Ne.symm h1)]; exact q1, q2⟩
  own := fun j ds h => by
    rcases getElem?_set' _ _ _ _ _ h with ⟨rfl, h1, h2⟩ | ⟨h1, h2⟩
    · cases h1
    · obtain ⟨a, xs, q1, q⟩ := e.own j ds h2
      exact ⟨a, xs, by rw [List.getElem?_set_ne (Ne.symm h1)]; exact q1, q⟩
  ne := fun j k ds es a hne h1 h2 s1 s2 => by
    rcases getElem?_set' _ _ _ _ _ h1 with ⟨rfl, z, _⟩ | ⟨n1, h1⟩
    · cases z
    · rcases getElem?_set' _ _ _ _ _ h2 with ⟨rfl, z, _⟩ | ⟨n2, h2⟩
      · cases z
      · rw [List.getElem?_set_ne (Ne.symm n1)] at s1
        rw [List.getElem?_set_ne (Ne.symm n2)] at s2
        exact e.ne j k ds es a hne h1 h2 s1 s2
/-- a new list comes to a name: nobody else knows it -/
theorem EOk.setN {K : PySem.W.Frag} {W : Wd} {H0 H : Hp} {ε : Ev} {σ : St} (e : EOk K W H0 H ε σ) {i : Nat} {a : Addr} {xs : List V} {ds : List D} (h1 : H a = some (.lst xs)) (h2 : RepA K W xs ds) (h3 : xs.length ≤ sizeLine) (h4 : W.F a = none) (h5 : ¬ W.P a) (h6 : H0 a = none)
    (hne : ∀ (j : Nat) es, j ≠ i → ε[j]? = some (S.own es) → σ[j]? ≠ some (some (V.ref a))) : EOk K W H0 H (ε.set i (.own ds)) (σ.set i (some (.ref a))) where
  len := by simp [e.len]
  val := fun j d' h => by
    rcases getElem?_set' _ _ _ _ _ h with ⟨rfl, z1, z2⟩ | ⟨z1, z2⟩
    · cases z1
    · obtain ⟨v', q1, q2⟩ := e.val j d' z2
      exact ⟨v', by rw [List.getElem?_set_ne (Ne.symm z1)]; exact q1, q2⟩
  own := fun j ds' h => by
    rcases getElem?_set' _ _ _ _ _ h with ⟨rfl, z1, z2⟩ | ⟨z1, z2⟩
    · cases z1
      exact ⟨a, xs, by rw [List.getElem?_set_self (by rw [← e.len]; exact z2)], h1, h2, h3, h4, h5, h6⟩
    · obtain ⟨b, ys, q1, q⟩ := e.own j ds' z2
      exact ⟨b, ys, by rw [List.getElem?_set_ne (Ne.symm z1)]; exact q1, q⟩
  ne := fun j k ds es b hjk z1 z2 s1 s2 => by
    rcases getElem?_set' _ _ _ _ _ z1 with ⟨rfl, y1, y2⟩ | ⟨n1, y1⟩
    · rcases getElem?_set' _ _ _ _ _ z2 with ⟨rfl, _, _⟩ | ⟨n2, y3⟩
      · exact hjk rfl
      · rw [List.getElem?_set_self (by rw [← e.len]; exact y2)] at s1
        rw [List.getElem?_set_ne (Ne.symm n2)] at s2
        cases s1
        exact hne k es n2 y3 s2
    · rcases getElem?_set' _ _ _ _ _ z2 with ⟨rfl, _, y3⟩ | ⟨n2, y3⟩
      · rw [List.getElem?_set_self (by rw [← e.len]; exact y3)] at s2
        rw [List.getElem?_set_ne (Ne.symm n1)] at s1
        cases s2
        exact hne j ds n1 y1 s1
      · rw [List.getElem?_set_ne (Ne.symm n1)] at s1
        rw [List.getElem?_set_ne (Ne.symm n2)] at s2
        exact e.ne j k ds es b hjk y1 y3 s1 s2
/-- the own list at a name is written -/
theorem EOk.write {K : PySem.W.Frag} {W : Wd} {H0 H : Hp} {ε : Ev} {σ : St} (e : EOk K W H0 H ε σ) {i : Nat} {a : Addr} {xs ys : List V} {ds es : List D} (h0 : ε[i]? = some (S.own ds)) (hs : σ[i]? = some (some (V.ref a))) (h2 : RepA K W ys es) (h3 : ys.length ≤ sizeLine)
    : EOk K W H0 (upd H a (.lst ys)) (ε.set i (.own es)) σ where
  len := by simp [e.len]
  val := fun j d' h => by
    rcases getElem?_set' _ _ _ _ _ h with ⟨rfl, z1, z2⟩ | ⟨z1, z2⟩
    · cases z1
    · exact e.val j d' z2
  own := fun j ds' h => by
    rcases getElem?_set' _ _ _ _ _ h with ⟨rfl, z1, z2⟩ | ⟨z1, z2⟩
    · cases z1
      obtain ⟨b, zs, q1, q2, q3, q4, q5, q6, q7⟩ := e.own j ds h0
      rw [hs] at q1; cases q1
      exact ⟨a, ys, hs, upd_same, h2, h3, q5, q6, q7⟩
    · obtain ⟨b, zs, q1, q2, q⟩ := e.own j ds' z2
      refine ⟨b, zs, q1, ?_, q⟩
      have hb : b ≠ a := by
        rintro rfl
        exact e.ne j i ds' ds b z1 z2 h0 q1 hs
      rw [upd_ne hb]; exact q2
  ne := fun j k ds1 ds2 b hjk z1 z2 s1 s2 => by
    have f : ∀ (j : Nat) ds1, (ε.set i (S.own es))[j]? = some (S.own ds1) → ∃ ds', ε[j]? = some (S.own ds') := fun j ds1 z => by
      rcases getElem?_set' _ _ _ _ _ z with ⟨rfl, _, _⟩ | ⟨_, y⟩
      · exact ⟨ds, h0⟩
      · exact ⟨_, y⟩
    obtain ⟨d1, w1⟩ := f j ds1 z1
    obtain ⟨d2, w2⟩ := f k ds2 z2
    exact e.ne j k d1 d2 b hjk w1 w2 s1 s2
/-- the own list at a name is frozen -/
theorem EOk.frz {K : PySem.W.Frag} {W : Wd} {H0 H : Hp} {ε : Ev} {σ : St} (e : EOk K W H0 H ε σ) {i : Nat} {a : Addr} {xs : List V} {ds : List D} (h0 : ε[i]? = some (S.own ds)) (hs : σ[i]? = some (some (V.ref a))) (h1 : H a = some (.lst xs)) (hF : W.F a = none) (hr : RepA K W xs ds) (hz : xs.length ≤ sizeLine)
    : EOk K (W.add a (.lst xs)) H0 H (ε.set i (.val (.lst ds))) σ where
  len := by simp [e.len]
  val := fun j d' h => by
    rcases getElem?_set' _ _ _ _ _ h with ⟨rfl, z1, z2⟩ | ⟨z1, z2⟩
    · cases z1
      exact ⟨_, hs, .lst upd_same hz (hr.mono (Wd.le_add hF))⟩
    · obtain ⟨v', q1, q2⟩ := e.val j d' z2
      exact ⟨v', q1, q2.mono (Wd.le_add hF)⟩
  own := fun j ds' h => by
    rcases getElem?_set' _ _ _ _ _ h with ⟨rfl, z1, z2⟩ | ⟨z1, z2⟩
    · cases z1
    · obtain ⟨b, zs, q1, q2, q3, q4, q5, q6, q7⟩ := e.own j ds' z2
      refine ⟨b, zs, q1, q2, q3.mono (Wd.le_add hF), q4, ?_, q6, q7⟩
      have hb : b ≠ a := by
        rintro rfl
        exact e.ne j i ds' ds b z1 z2 h0 q1 hs
      show upd W.F a _ b = none
      rw [upd_ne hb]; exact q5
  ne := fun j k ds1 ds2 b hjk z1 z2 s1 s2 => by
    rcases getElem?_set' _ _ _ _ _ z1 with ⟨rfl, y, _⟩ | ⟨_, y1⟩
    · cases y
    · rcases getElem?_set' _ _ _ _ _ z2 with ⟨rfl, y, _⟩ | ⟨_, y2⟩
      · cases y
      · exact e.ne j k ds1 ds2 b hjk y1 y2 s1 s2

section
variable {X : Cx} {C : VC} {e : Expr} {st : Stmt} {sts : List Stmt}
/-! ### blocks -/
def wNil : WS := fun V ε => V.nx ε
def wSeq (t u : WS) : WS := fun V ε => t { V with nx := u V } ε
theorem vss_nil : VSs X C [] wNil := PSs.imp pss_nil fun D' σ H q => by
  obtain ⟨W, ε, V, c, hw, k⟩ := q
  exact k.nx W H ε σ .refl c hw
theorem vss_cons {t u : WS} (h1 : VS X C st t) (h2 : VSs X C sts u) : VSs X C (st :: sts) (wSeq t u) := PSs.imp (pss_cons h1 h2) fun D' σ H q => by
  obtain ⟨W, ε, V, c, hw, k⟩ := q
  refine ⟨W, ε, { V with nx := u V }, c, hw, ⟨fun W' H' ε' σ' l c' q => ⟨W', ε', V, c', q, k.mono l⟩, k.rt, k.rn, k.bk, k.ct⟩⟩
theorem vss_one {t : WS} (h1 : VS X C st t) : VSs X C [st] t := pss_one h1
/-- the own list at i is frozen ahead of a block -/
def wFrz (i : Nat) (t : WS) : WS := fun V ε => match ε[i]? with
  | some (.own ds) => t V (ε.set i (.val (.lst ds)))
  | _ => t V ε
theorem COk.frz {W : Wd} {H : Hp} {ε : Ev} {σ : St} (c : COk C W H ε σ) {i : Nat} {ds : List D} (h0 : ε[i]? = some (S.own ds)) : ∃ W', W.le W' ∧ COk C W' H (ε.set i (.val (.lst ds))) σ := by
  obtain ⟨a, xs, q1, q2, q3, q4, q5, q6, q7⟩ := c.e.own i ds h0
  exact ⟨W.add a (.lst xs), Wd.le_add q5, c.w.freeze q2 q5 q6, frz_step c.st q2 q5 q7, c.e.frz h0 q1 q2 q5 q3 q4⟩
theorem vss_frz (i : Nat) {t : WS} (h : VSs X C sts t) : VSs X C sts (wFrz i t) := PSs.imp h fun D' σ H q => by
  obtain ⟨W, ε, V, c, hw, k⟩ := q
  unfold wFrz at hw
  split at hw
  · rename_i ds e
    obtain ⟨W', l, c'⟩ := c.frz e
    exact ⟨W', _, V, c', hw, k.mono l⟩
  · exact ⟨W, ε, V, c, hw, k⟩
def wBk : WS := fun V ε => V.bk ε
def wCt : WS := fun V ε => V.ct ε
theorem vs_pass {pos} : VS X C (.Pass pos) wNil := PS.imp ps_pass fun D' σ H q => by
  obtain ⟨W, ε, V, c, hw, k⟩ := q
  exact k.nx W H ε σ .refl c hw
theorem vs_break {pos} : VS X C (.Break pos) wBk := PS.imp ps_break fun D' σ H q => by
  obtain ⟨W, ε, V, c, hw, k⟩ := q
  exact k.bk W H ε σ .refl c hw
theorem vs_continue {pos} : VS X C (.Continue pos) wCt := PS.imp ps_continue fun D' σ H q => by
  obtain ⟨W, ε, V, c, hw, k⟩ := q
  exact k.ct W H ε σ .refl c hw
def wDrop (w : WE) : WS := fun V ε => w ε fun _ => V.nx ε
theorem vs_expr {w : WE} {pos : Pos} (he : VE X C e w) (hs : swapsWith e none pos.line X.env = pure false := by rfl) : VS X C (.Expr e pos) (wDrop w) := PS.imp (ps_expr he hs) fun D' σ H q => by
  obtain ⟨W, ε, V, c, hw, k⟩ := q
  exact ⟨W, ε, _, c, hw, fun d v W' H' s w' r q => k.nx W' H' ε σ s.le (c.step s w') q⟩
def wRet (w : WE) : WS := fun V ε => w ε V.rt
theorem vs_ret {w : WE} {pos : Pos} (he : VE X C e w) : VS X C (.Return (some e) pos) (wRet w) := PS.imp (ps_ret he) fun D' σ H q => by
  obtain ⟨W, ε, V, c, hw, k⟩ := q
  exact ⟨W, ε, _, c, hw, fun d v W' H' s w' r q => k.rt v d W' H' s.le (c.st.trans s) w' r q⟩
/-- a new list is handed back -/
def wRetN (w : WA) : WS := fun V ε => w ε V.rn
theorem vs_retN {w : WA} {pos : Pos} (he : VN X C e w) : VS X C (.Return (some e) pos) (wRetN w) := PS.imp (ps_ret he) fun D' σ H q => by
  obtain ⟨W, ε, V, c, hw, k⟩ := q
  refine ⟨W, ε, _, c, hw, fun ds a xs W' H' s w' h1 h2 h3 h4 h5 h6 q => k.rn ds a xs W' H' s.le (c.st.trans s) w' h1 h2 h3 h4 h5 (c.st.none_of h6) q⟩
/-- the own list at i is handed back -/
def wRetO (i : Nat) : WS := fun V ε => match ε[i]? with
  | some (.own ds) => V.rn ds
  | _ => False
theorem vs_retO (i : Nat) {x : Str} {pos pos' : Pos} (hN : X.N[i]? = some x := by rfl) (hv : Vis X.env.scope x := by first | exact Or.inl rfl | exact Or.inr (Or.inl rfl) | exact Or.inr (Or.inr rfl)) (hd : (x == ("__debug__" : Str)) = false := by decide)
    (hcd : (x == ("__classdict__" : Str)) = false := by decide) : VS X C (.Return (some (.Name x pos)) pos') (wRetO i) := PS.imp (ps_ret (pe_var hN hv hd hcd)) fun D' σ H q => by
  obtain ⟨W, ε, V, c, hw, k⟩ := q
  unfold wRetO at hw
  split at hw
  · rename_i ds e0
    obtain ⟨a, xs, q1, q2, q3, q4, q5, q6, q7⟩ := c.e.own i ds e0
    exact ⟨_, q1, k.rn ds a xs W H .refl c.st c.w q2 q3 q4 q5 q6 q7 hw⟩
  · exact hw.elim
def wRet0 : WS := fun V _ => V.rt .non
theorem vs_ret0 {pos : Pos} : VS X C (.Return none pos) wRet0 := PS.imp ps_retN fun D' σ H q => by
  obtain ⟨W, ε, V, c, hw, k⟩ := q
  exact k.rt _ _ W H .refl c.st c.w .non hw
def wIf (c : WT) (t u : WS) : WS := fun V ε => c ε fun b => if b = true then t V ε else u V ε
theorem vs_if {c : Expr} {a b : List Stmt} {pos : Pos} {wc : WT} {t u : WS} (hc : VT X C c wc) (ha : VSs X C a t) (hb : VSs X C b u) : VS X C (.If c a b pos) (wIf wc t u) := PS.imp (ps_if hc ha hb) fun D' σ H q => by
  obtain ⟨W, ε, V, c, hw, k⟩ := q
  refine ⟨W, ε, _, c, hw, fun b W' H' s w' q => ?_⟩
  cases b with
  | true => exact ⟨W', ε, V, c.step s w', q, k.mono s.le⟩
  | false => exact ⟨W', ε, V, c.step s w', q, k.mono s.le⟩
/-- a statement that is never reached -/
def wNever : WS := fun _ _ => False
theorem vs_never : VS X C st wNever := PS.imp ps_never fun D' σ H q => by
  obtain ⟨W, ε, V, c, hw, k⟩ := q
  exact hw
theorem vss_never : VSs X C sts wNever := PSs.imp pss_never fun D' σ H q => by
  obtain ⟨W, ε, V, c, hw, k⟩ := q
  exact hw

/-! ### targets -/
abbrev WG := D → Ev → (Ev → Prop) → Prop
abbrev WGs := List D → Ev → (Ev → Prop) → Prop
def liftG (C : VC) (js : List Nat) (g : WG) : TG := fun v σ H Q => ∃ W ε d R, COk C W H ε σ ∧ Rep C.K W v d ∧ g d ε R ∧ ∀ ε' σ', COk C W H ε' σ' → (σ'.length = σ.length ∧ ∀ j, j ∉ js → σ'[j]? = σ[j]?) → R ε' → Q σ' H
def liftGs (C : VC) (js : List Nat) (g : WGs) : TGs := fun vs σ H Q => ∃ W ε ds R, COk C W H ε σ ∧ RepA C.K W vs ds ∧ g ds ε R ∧ ∀ ε' σ', COk C W H ε' σ' → (σ'.length = σ.length ∧ ∀ j, j ∉ js → σ'[j]? = σ[j]?) → R ε' → Q σ' H
abbrev VG (X : Cx) (C : VC) (js : List Nat) (e : Expr) (g : WG) : Prop := PG X e (liftG C js g)
abbrev VGs (X : Cx) (C : VC) (js : List Nat) (es : List Expr) (g : WGs) : Prop := PGs X es (liftGs C js g)
theorem PG.imp {t t' : TG} (h : PG X e t) (i : ∀ v σ H Q, t' v σ H Q → t v σ H Q) : PG X e t' := ⟨fun pins s σ H v u Q I r q => h.run pins s σ H v u Q I r (i _ _ _ _ q)⟩
theorem PGs.imp {es : List Expr} {t t' : TGs} (h : PGs X es t) (i : ∀ v σ H Q, t' v σ H Q → t v σ H Q) : PGs X es t' := ⟨fun pins s σ H v u Q I r q => h.run pins s σ H v u Q I r (i _ _ _ _ q)⟩
def gNm (i : Nat) : WG := fun d ε R => R (ε.set i (.val d))
theorem vg_name {i : Nat} {x : Str} {pos : Pos} (hN : X.N.Nodup) (hi : X.N[i]? = some x) (hx : Loc X.env.scope x) (hf : X.fn x = true ∨ X.env.scope.names.lookup x = some .local := by first | exact .inl rfl | exact .inr rfl | assumption) : VG X C [i] (.Name x pos) (gNm i) := PG.imp (pg_name hN hi hx hf) fun v σ H Q q => by
  obtain ⟨W, ε, d, R, c, r, hw, k⟩ := q
  exact k _ _ ⟨c.w, c.st, c.e.set r⟩ ⟨by simp, fun j hj => List.getElem?_set_ne (by simpa using Ne.symm (by simpa using hj))⟩ hw
def gsNil : WGs := fun ds ε R => ds = [] ∧ R ε
def gsCons (t : WG) (u : WGs) : WGs := fun ds ε R => match ds with
  | d :: r => t d ε fun ε' => u r ε' R
  | [] => False
theorem vgs_nil : VGs X C [] [] gsNil := PGs.imp pgs_nil fun vs σ H Q q => by
  obtain ⟨W, ε, ds, R, c, r, hw, k⟩ := q
  obtain ⟨rfl, hw⟩ := hw
  cases r
  exact ⟨rfl, k ε σ c ⟨rfl, fun _ _ => rfl⟩ hw⟩
theorem vgs_cons {es : List Expr} {js js' : List Nat} {t : WG} {u : WGs} (h1 : VG X C js e t) (h2 : VGs X C js' es u)
    (hs : (assignEach (e :: es) X.env).map (·.2) = assign e X.env :: (assignEach es X.env).map (·.2) := by rfl) : VGs X C (js ++ js') (e :: es) (gsCons t u) := PGs.imp (pgs_cons h1 h2 hs) fun vs σ H Q q => by
  obtain ⟨W, ε, ds, R, c, r, hw, k⟩ := q
  cases r with
  | nil => exact hw.elim
  | cons r rr =>
    refine ⟨_, _, rfl, W, ε, _, _, c, r, hw, fun ε' σ' c' f q => ⟨W, ε', _, R, c', rr, q, fun ε2 σ2 c2 f2 q2 => ?_⟩⟩
    exact k ε2 σ2 c2 ⟨f2.1.trans f.1, fun j hj => (f2.2 j fun z => hj (List.mem_append_right _ z)).trans (f.2 j fun z => hj (List.mem_append_left _ z))⟩ q2
def gTp (n : Nat) (t : WGs) : WG := fun d ε R => match d with
  | .tup ds => ds.length = n ∧ t ds ε R
  | _ => False
theorem vg_tup {es : List Expr} {js : List Nat} {kk : Nat} {pos : Pos} {t : WGs} {n : Nat} (hK : C.K = X.K) (hc : X.calm = true) (h : VGs X C js es t)
    (hn : (assignEach es X.env).length = n := by rfl) (hst : (assignEach es X.env).findIdx? (·.1) = none := by rfl) : VG X C js (.Tuple es kk pos) (gTp n t) := PG.imp (pg_tup hc h hn hst) fun v σ H Q q => by
  obtain ⟨W, ε, d, R, c, r, hw, k⟩ := q
  cases r with
  | tup hs hz hr =>
    obtain ⟨h1, h2⟩ := hw
    exact ⟨_, _, rfl, hK ▸ hs.sq c.w.same, by rw [hr.length]; exact h1, W, ε, _, R, c, hr, h2, k⟩
  | _ => exact hw.elim
def wAsg (w : WE) (g : WG) : WS := fun V ε => w ε fun d => g d ε V.nx
theorem vs_asg {js : List Nat} {tg : Expr} {pos : Pos} {w : WE} {g : WG} (he : VE X C e w) (hg : VG X C js tg g) (hs : swapsWithSole [tg] e pos.line X.env = pure false := by rfl) (hw : swappedStores [tg] e X.env = pure none := by rfl)
    (h1 : (assignEach [tg] X.env).map (·.2) = [assign tg X.env] := by rfl) : VS X C (.Assign [tg] e pos) (wAsg w g) := PS.imp (ps_asg he hg hs hw h1) fun D' σ H q => by
  obtain ⟨W, ε, V, c, hw, k⟩ := q
  refine ⟨W, ε, _, c, hw, fun d v W' H' s w' r q => ⟨W', ε, d, _, c.step s w', r, q, fun ε' σ' c' _ q => k.nx W' H' ε' σ' s.le c' q⟩⟩
def wSet (i : Nat) (w : WE) : WS := fun V ε => w ε fun d => V.nx (ε.set i (.val d))
theorem vs_set {i : Nat} {x : Str} {w : WE} {pos pos' : Pos} (hN : X.N.Nodup) (hi : X.N[i]? = some x) (hx : Loc X.env.scope x) (he : VE X C e w) (hs : swapsWith e (some (.Name x pos')) pos.line X.env = pure false := by rfl) (hf : X.fn x = true ∨ X.env.scope.names.lookup x = some .local := by first | exact .inl rfl | exact .inr rfl | assumption) :
    VS X C (.Assign [.Name x pos'] e pos) (wSet i w) := PS.imp (ps_set hN hi hx he hs hf) fun D' σ H q => by
  obtain ⟨W, ε, V, c, hw, k⟩ := q
  refine ⟨W, ε, _, c, hw, fun d v W' H' s w' r q => ?_⟩
  have c' := c.step s w'
  exact k.nx W' H' _ _ s.le ⟨c'.w, c'.st, c'.e.set r⟩ q
/-- an own list comes to a name -/
def wSetN (i : Nat) (w : WA) : WS := fun V ε => w ε fun ds => V.nx (ε.set i (.own ds))
theorem setN_ok {W W' : Wd} {H H' : Hp} {ε : Ev} {σ : St} {i : Nat} {a : Addr} {xs : List V} {ds : List D} (c : COk C W H ε σ) (s : Step W H W' H') (w' : WOk W' H') (h1 : H' a = some (.lst xs)) (h2 : RepA C.K W' xs ds) (h3 : xs.length ≤ sizeLine) (h4 : W'.F a = none) (h5 : ¬ W'.P a) (h6 : H a = none) :
    COk C W' H' (ε.set i (.own ds)) (σ.set i (some (.ref a))) := by
  have c' := c.step s w'
  refine ⟨c'.w, c'.st, c'.e.setN h1 h2 h3 h4 h5 (c.st.none_of h6) fun j es _ e0 e1 => ?_⟩
  obtain ⟨b, ys, q1, q2, _⟩ := c.e.own j es e0
  rw [e1] at q1; cases q1
  rw [h6] at q2; cases q2
theorem vs_setN {i : Nat} {x : Str} {w : WA} {pos pos' : Pos} (hN : X.N.Nodup) (hi : X.N[i]? = some x) (hx : Loc X.env.scope x) (he : VN X C e w) (hs : swapsWith e (some (.Name x pos')) pos.line X.env = pure false := by rfl) (hf : X.fn x = true ∨ X.env.scope.names.lookup x = some .local := by first | exact .inl rfl | exact .inr rfl | assumption) :
    VS X C (.Assign [.Name x pos'] e pos) (wSetN i w) := PS.imp (ps_set hN hi hx he hs hf) fun D' σ H q => by
  obtain ⟨W, ε, V, c, hw, k⟩ := q
  refine ⟨W, ε, _, c, hw, fun ds a xs W' H' s w' h1 h2 h3 h4 h5 h6 q => ?_⟩
  exact k.nx W' H' _ _ s.le (setN_ok c s w' h1 h2 h3 h4 h5 h6) q
/-- a, b = x, y -/
def wPar (i j : Nat) (w : WA) : WS := fun V ε => w ε fun ds => match ds with
  | [d, d'] => V.nx ((ε.set i (.val d)).set j (.val d'))
  | _ => False
theorem vs_par {i j : Nat} {x y : Str} {a b : Expr} {w : WA} {px py pt pos : Pos} {kt k2 pt2} (hc : X.calm = true) (hN : X.N.Nodup) (hi : X.N[i]? = some x) (hj : X.N[j]? = some y) (hij : i ≠ j)
    (hx : X.env.scope.names.lookup x = some .local) (hy : X.env.scope.names.lookup y = some .local) (ha : VA X C [a, b] w)
    (hw : swappedStores [.Tuple [.Name x px, .Name y py] kt pt] (.Tuple [a, b] k2 pt2) X.env = pure (some [x, y]))
    (hs : swapsWithSole [.Tuple [.Name x px, .Name y py] kt pt] (.Tuple [a, b] k2 pt2) pos.line X.env = pure false := by rfl) :
    VS X C (.Assign [.Tuple [.Name x px, .Name y py] kt pt] (.Tuple [a, b] k2 pt2) pos) (wPar i j w) := PS.imp (ps_par hc hN hi hj hij hx hy ha hw hs) fun D' σ H q => by
  obtain ⟨W, ε, V, c, hw, k⟩ := q
  refine ⟨W, ε, _, c, hw, fun ds vs W' H' s w' r q => ?_⟩
  have c' := c.step s w'
  cases r with
  | nil => exact q.elim
  | cons r1 r =>
    cases r with
    | nil => exact q.elim
    | cons r2 r =>
      cases r with
      | cons _ _ => exact q.elim
      | nil => exact ⟨_, _, rfl, k.nx W' H' _ _ s.le ⟨c'.w, c'.st, (c'.e.set r1).set r2⟩ q⟩

/-! ### the own list at a name: its methods -/
theorem COk.write {W : Wd} {H : Hp} {ε : Ev} {σ : St} {i : Nat} {a : Addr} {ys : List V} {ds es : List D} (c : COk C W H ε σ) (h0 : ε[i]? = some (S.own ds)) (hs : σ[i]? = some (some (V.ref a))) (h2 : RepA C.K W ys es) (h3 : ys.length ≤ sizeLine) :
    COk C W (upd H a (.lst ys)) (ε.set i (.own es)) σ := by
  obtain ⟨b, xs, q1, q2, q3, q4, q5, q6, q7⟩ := c.e.own i ds h0
  rw [hs] at q1; cases q1
  refine ⟨c.w.write q5 q6, ⟨c.st.le, fun b o e n => ?_, c.st.newF, c.st.newP, fun b o e => ?_⟩, c.e.write (xs := xs) h0 hs h2 h3⟩
  · rw [upd_ne (ne_of_none e q7)]; exact c.st.keep b o e n
  · rw [upd_ne (ne_of_none e q7)]; exact c.st.there b o e
theorem own_ty {W : Wd} {H : Hp} {ε : Ev} {σ : St} {i : Nat} {ds : List D} (K : PySem.W.Frag) (c : COk C W H ε σ) (h0 : ε[i]? = some (S.own ds)) : ∃ a xs, σ[i]? = some (some (V.ref a)) ∧ H a = some (.lst xs) ∧ tyV K "list" (.ref a) H ∧ RepA C.K W xs ds ∧ xs.length ≤ sizeLine ∧ W.F a = none ∧ ¬ W.P a := by
  obtain ⟨b, xs, q1, q2, q3, q4, q5, q6, q7⟩ := c.e.own i ds h0
  exact ⟨b, xs, q1, q2, .inl ⟨rfl, _, .inl (.inl q2)⟩, q3, q4, q5, q6⟩
def wApp (i : Nat) (w : WE) : WS := fun V ε => match ε[i]? with
  | some (.own ds) => w ε fun d => ds.length < sizeLine ∧ V.nx (ε.set i (.own (ds ++ [d])))
  | _ => False
theorem vs_app {i : Nat} {w : WE} {pos : Pos} (h : PE X e (tBM X.K "list" rAppend (tVar i) (tCons (liftE C w) tNil))) (hs : swapsWith e none pos.line X.env = pure false := by rfl) : VS X C (.Expr e pos) (wApp i w) := PS.imp (ps_expr h hs) fun D' σ H q => by
  obtain ⟨W, ε, V, c, hw, k⟩ := q
  unfold wApp at hw
  split at hw
  · rename_i ds h0
    obtain ⟨a, xs, q1, q2, q3, q4, q5, q6, q7⟩ := own_ty X.K c h0
    refine ⟨_, q1, q3, W, ε, _, c, hw, fun d v W' H' s w' r q => ?_⟩
    have c' := c.step s w'
    have hl : xs.length = ds.length := q4.length
    refine ⟨a, xs, v, rfl, rfl, s.keep _ _ q2 q7, by rw [hl]; exact q.1, ?_⟩
    exact k.nx W' _ _ _ s.le (c'.write h0 q1 ((q4.mono s.le).append (.cons r .nil)) (by rw [List.length_append, hl]; exact q.1)) q.2
  · exact hw.elim
/-- x.extend([..]) -/
def wExt (i : Nat) (w : WE) : WS := fun V ε => match ε[i]? with
  | some (.own ds) => w ε fun d => match d with
    | .lst es => ds.length + es.length ≤ sizeLine ∧ V.nx (ε.set i (.own (ds ++ es)))
    | _ => False
  | _ => False
theorem vs_ext {i : Nat} {w : WE} {pos : Pos} (h : PE X e (tBM X.K "list" rExtend (tVar i) (tCons (liftE C w) tNil))) (hs : swapsWith e none pos.line X.env = pure false := by rfl) : VS X C (.Expr e pos) (wExt i w) := PS.imp (ps_expr h hs) fun D' σ H q => by
  obtain ⟨W, ε, V, c, hw, k⟩ := q
  unfold wExt at hw
  split at hw
  · rename_i ds h0
    obtain ⟨a, xs, q1, q2, q3, q4, q5, q6, q7⟩ := own_ty X.K c h0
    refine ⟨_, q1, q3, W, ε, _, c, hw, fun d v W' H' s w' r q => ?_⟩
    cases r with
    | lst hs hz hr =>
      have c' := c.step s w'
      have hl : xs.length = ds.length := q4.length
      have hl2 := hr.length
      refine ⟨a, _, xs, _, rfl, rfl, s.keep _ _ q2 q7, w'.same _ _ hs, by rw [hl, hl2]; exact q.1, ?_⟩
      exact k.nx W' _ _ _ s.le (c'.write h0 q1 ((q4.mono s.le).append hr) (by rw [List.length_append, hl, hl2]; exact q.1)) q.2
    | _ => exact q.elim
  · exact hw.elim
end
end VL


set_option Elab.async false
set_option linter.all false
set_option maxRecDepth 100000
set_option maxHeartbeats 4000000
namespace VL
open PySem PySem.Spec PyProof.Rows L2

/-! ### what is walked -/
/-- the iterator yields ds, whatever the heap does beside what is frozen -/
structure JOk (K : PySem.W.Frag) (J : It) (W : Wd) (ds : List D) : Prop where
  len : ds.length ≤ sizeLine
  go : ∀ i W' H', W.le W' → WOk W' H' → i < ds.length → J.go i H'
  yld : ∀ i W' H' x H'', W.le W' → WOk W' H' → i < ds.length → J.yld i H' x H'' → ∃ W'' d, Step W' H' W'' H'' ∧ WOk W'' H'' ∧ ds[i]? = some d ∧ Rep K W'' x d
  stop : ∀ W' H', W.le W' → WOk W' H' → J.stop ds.length H'
theorem JOk.mono {K : PySem.W.Frag} {J : It} {W W1 : Wd} {ds : List D} (j : JOk K J W ds) (l : W.le W1) : JOk K J W1 ds :=
  ⟨j.len, fun i W' H' l' => j.go i W' H' (l.trans l'), fun i W' H' x H'' l' => j.yld i W' H' x H'' (l.trans l'), fun W' H' l' => j.stop W' H' (l.trans l')⟩
def liftI (C : VC) (w : WA) : TI := fun σ H R => ∃ W ε Q, COk C W H ε σ ∧ w ε Q ∧ ∀ ds J W' H', Step W H W' H' → WOk W' H' → JOk C.K J W' ds → Q ds → R J H'
abbrev VI (X : Cx) (C : VC) (tg iter : Expr) (w : WA) : Prop := PI X tg iter (liftI C w)
theorem PI.imp {X : Cx} {tg iter : Expr} {t t' : TI} (h : PI X tg iter t) (i : ∀ σ H R, t' σ H R → t σ H R) : PI X tg iter t' := ⟨fun pins s σ H R I q => h.run pins s σ H R I (i _ _ _ q)⟩
theorem PI.or {X : Cx} {tg iter : Expr} {t t' : TI} (h : PI X tg iter t) (h' : PI X tg iter t') : PI X tg iter (fun σ H R => t σ H R ∨ t' σ H R) := ⟨fun pins s σ H R I q => q.elim (h.run pins s σ H R I) (h'.run pins s σ H R I)⟩

theorem WOk.sql {K : PySem.W.Frag} {W W' : Wd} {H : Hp} {a : Addr} {xs : List V} (w : WOk W' H) (l : W.le W') (h : W.F a = some (.lst xs)) : SqL K H a xs := .inl (.inl (w.same _ _ (l.F _ _ h)))
theorem jok_list {K : PySem.W.Frag} {W : Wd} {a : Addr} {xs : List V} {ds : List D} (h : W.F a = some (.lst xs)) (hz : xs.length ≤ sizeLine) (r : RepA K W xs ds) : JOk K (Itl K a) W ds where
  len := by rw [← r.length]; exact hz
  go := fun i W' H' l w hi => by
    have hi' : i < xs.length := by rw [r.length]; exact hi
    exact ⟨xs, xs[i], w.sql l h, by simp [hi']⟩
  yld := fun i W' H' x H'' l w hi y => by
    obtain ⟨rfl, y⟩ := y
    obtain ⟨d, h1, h2⟩ := r.get (y xs (w.sql l h))
    exact ⟨W', d, .refl, w, h1, h2.mono l⟩
  stop := fun W' H' l w => ⟨xs, w.sql l h, by rw [r.length]; exact Nat.le_refl _⟩
theorem jok_tup {K : PySem.W.Frag} {W : Wd} {a : Addr} {xs : List V} {ds : List D} (h : TupAt K W.F a xs) (hz : xs.length ≤ sizeLine) (r : RepA K W xs ds) : JOk K (Itt K a) W ds where
  len := by rw [← r.length]; exact hz
  go := fun i W' H' l w hi => by
    have hi' : i < xs.length := by rw [r.length]; exact hi
    exact ⟨xs, xs[i], h.sq (l.F.trans w.same), by simp [hi']⟩
  yld := fun i W' H' x H'' l w hi y => by
    obtain ⟨rfl, y⟩ := y
    obtain ⟨d, h1, h2⟩ := r.get (y xs (h.sq (l.F.trans w.same)))
    exact ⟨W', d, .refl, w, h1, h2.mono l⟩
  stop := fun W' H' l w => ⟨xs, h.sq (l.F.trans w.same), by rw [r.length]; exact Nat.le_refl _⟩
section
variable {X : Cx} {C : VC} {tg e : Expr}
/-- what a value gives to walk -/
def PIV (X : Cx) (C : VC) (tg : Expr) (g : D → (List D → Prop) → Prop) : Prop := ∀ (pins : List (Addr × Obj)) (s : Shared) (σ : St) (H : Hp) (W : Wd) (v : V) (u : Value) (d : D) (Q : List D → Prop) (R : It → Hp → Prop),
  Inv X pins σ H s → RelV v u → WOk W H → Rep C.K W v d → g d Q → (∀ ds J W' H', Step W H W' H' → WOk W' H' → JOk C.K J W' ds → Q ds → R J H') → wpAny (model X.prog X.w) X.A (pyIter u) (PIE X pins σ tg R) X.xe s
theorem vi_of {w : WE} {g : D → (List D → Prop) → Prop} (hg : PIV X C tg g) (h : VE X C e w) : VI X C tg e (fun ε Q => w ε fun d => g d Q) := ⟨fun pins s σ H R I q => by
  obtain ⟨W, ε, Q, c, hw, k⟩ := q
  refine thn (h.run pins s σ H (fun v H1 => ∃ W1 d, Step W H W1 H1 ∧ WOk W1 H1 ∧ Rep C.K W1 v d ∧ g d Q) I ⟨W, ε, _, c, hw, fun d v W' H' s' w' r q => ⟨W', d, s', w', r, q⟩⟩) fun u s1 q => ?_
  obtain ⟨v, H1, I1, rv, W1, d, st, w1, r, q⟩ := q
  exact hg pins s1 σ H1 W1 v u d Q R I1 rv w1 r q fun ds J W' H' s' => k ds J W' H' (st.trans s')⟩
def gSq : D → (List D → Prop) → Prop := fun d Q => match d with
  | .lst ds => Q ds
  | .tup ds => Q ds
  | .str s => s.cps.toList.length ≤ sizeLine ∧ Q (s.cps.toList.map fun c => .str ⟨#[c]⟩)
  | _ => False
theorem fp_one {pins : List (Addr × Obj)} {σ : St} {H : Hp} {s : Shared} (I : Inv X pins σ H s) : ∀ b ∈ [s.heap.objs.size], FpOk X pins H b := fun b hb => by
  have z : b = s.heap.objs.size := by simpa using hb
  rw [z]
  exact I.fpOk (Nat.le_refl _) (I.hok.fresh (Nat.le_refl _))
theorem jok_str {K : PySem.W.Frag} {W : Wd} {x : Str} (h : x.cps.toList.length ≤ sizeLine) : JOk K (Its x) W (x.cps.toList.map fun c => .str ⟨#[c]⟩) where
  len := by rw [List.length_map]; exact h
  go := fun i W' H' l w hi => by
    show i < x.cps.size
    simpa using hi
  yld := fun i W' H' v H'' l w hi y => by
    obtain ⟨rfl, c, h1, rfl⟩ := y
    refine ⟨W', .str ⟨#[c]⟩, .refl, w, ?_, .str _⟩
    rw [List.getElem?_map, Array.getElem?_toList, h1]; rfl
  stop := fun W' H' l w => by show x.cps.size ≤ _; simp
theorem piv_seq (hK : C.K = X.K) : PIV X C tg gSq := by
  intro pins s σ H W v u d Q R I rv w r q k
  cases r with
  | lst h z ra =>
    rename_i a xs ds
    cases rv
    have hq : SqL X.K H a xs := .inl (.inl (w.same _ _ h))
    obtain ⟨items, _, pl, _⟩ := I.list hq
    exact wpAny_pyIter_list pl.isList (pi_one (tk := s.toks) I _ (turn_list a _) ⟨_, Heap.get?_push_size _ rfl, rfl, rfl⟩ (k ds _ W H .refl w (hK ▸ jok_list h z ra) q))
  | tup h z ra =>
    rename_i a xs ds
    cases rv
    have hq : SqT X.K H a xs := hK ▸ h.sq w.same
    obtain ⟨items, _, pl, _⟩ := I.tuple hq
    exact wpAny_pyIter_tuple (show s.heap.IsTuple a items.toArray from pl) (pi_one (tk := s.toks) I _ (turn_tuple a _) ⟨_, Heap.get?_push_size _ rfl, rfl, rfl⟩ (k ds _ W H .refl w (hK ▸ jok_tup h z ra) q))
  | str z =>
    obtain ⟨t, rfl⟩ := rv
    have j := k _ _ W H .refl w (jok_str q.1) q.2
    cases ha : z.cps.all (· < 128)
    · exact wpAny_pyIter_wide ha (pi_one (tk := s.toks) I _ (turn_str _ z t "str_iterator" (.inr rfl)) ⟨_, Heap.get?_push_size _ rfl, rfl, rfl⟩ j)
    · exact wpAny_pyIter_ascii ha (pi_one (tk := s.toks) I _ (turn_str _ z t "str_ascii_iterator" (.inl rfl)) ⟨_, Heap.get?_push_size _ rfl, rfl, rfl⟩ j)
  | _ => exact (show False from q).elim
def iSq (w : WE) : WA := fun ε Q => w ε fun d => gSq d Q
theorem vi_seq {w : WE} (hK : C.K = X.K) (h : VE X C e w) : VI X C tg e (iSq w) := vi_of (piv_seq hK) h
/-- range -/
def rangeL (i j : Int) : List D := (List.range (j - i).toNat).map fun (k : Nat) => D.int (i + (k : Int))
theorem jok_range {K : PySem.W.Frag} {W : Wd} {i j : Int} (h : (j - i).toNat ≤ sizeLine) : JOk K (Itr i (j - i).toNat) W (rangeL i j) where
  len := by unfold rangeL; rw [List.length_map, List.length_range]; exact h
  go := fun k W' H' l w hi => by
    unfold rangeL at hi; rw [List.length_map, List.length_range] at hi; exact hi
  yld := fun k W' H' v H'' l w hi y => by
    obtain ⟨rfl, rfl⟩ := y
    unfold rangeL at hi; rw [List.length_map, List.length_range] at hi
    refine ⟨W', _, .refl, w, ?_, .int _⟩
    unfold rangeL
    rw [List.getElem?_map, List.getElem?_range hi]; rfl
  stop := fun W' H' l w => by
    show (j - i).toNat ≤ _
    unfold rangeL; rw [List.length_map, List.length_range]; exact Nat.le_refl _
def iRg1 (w : WA) : WA := fun ε Q => w ε fun ds => match ds with
  | [.int j] => -(2 ^ 62) ≤ j ∧ j ≤ 16777216 ∧ Q (rangeL 0 j)
  | _ => False
def iRg2 (w : WA) : WA := fun ε Q => w ε fun ds => match ds with
  | [.int i, .int j] => -(2 ^ 60) ≤ i ∧ i < 2 ^ 60 ∧ -(2 ^ 60) ≤ j ∧ j < 2 ^ 60 ∧ j - i ≤ 16777216 ∧ Q (rangeL i j)
  | _ => False
theorem sizeLine_val : sizeLine = 16777216 := sizeLine_eq
theorem vi_range1 {es : List Expr} {a : Expr} {p pos : Pos} {w : WA} (hg : Gl X "range") (hm : X.mg "range" = none) (ha : VA X C [a] w) (hs : starEach [a] X.env = [(false, eval a X.env)] := by rfl) : VI X C tg (.Call (.Name "range" p) [a] [] pos) (iRg1 w) :=
  PI.imp (pi_range1 hg hm ha hs) fun σ H R q => by
  obtain ⟨W, ε, Q, c, hw, k⟩ := q
  refine ⟨W, ε, _, c, hw, fun ds vs W' H' s w' r q => ?_⟩
  cases r with
  | nil => exact (show False from q).elim
  | cons r1 r =>
    cases r with
    | cons _ _ => exact (show False from by cases r1 <;> exact q).elim
    | nil =>
      cases r1 with
      | int j =>
        obtain ⟨h1, h2, q⟩ := q
        refine ⟨j, rfl, h1, by omega, ?_⟩
        have e : (j - 0).toNat = j.toNat := by rw [Int.sub_zero]
        rw [← e]
        exact k _ _ W' H' s w' (jok_range (by rw [sizeLine_val]; omega)) q
      | _ => exact (show False from q).elim
theorem vi_range2 {a b : Expr} {p pos : Pos} {w : WA} (hg : Gl X "range") (hm : X.mg "range" = none) (ha : VA X C [a, b] w) (hs : starEach [a, b] X.env = [(false, eval a X.env), (false, eval b X.env)] := by rfl) (hs2 : starEach [b] X.env = [(false, eval b X.env)] := by rfl) : VI X C tg (.Call (.Name "range" p) [a, b] [] pos) (iRg2 w) :=
  PI.imp (pi_range2 hg hm ha hs hs2) fun σ H R q => by
  obtain ⟨W, ε, Q, c, hw, k⟩ := q
  refine ⟨W, ε, _, c, hw, fun ds vs W' H' s w' r q => ?_⟩
  cases r with
  | nil => exact (show False from q).elim
  | cons r1 r =>
    cases r with
    | nil => exact (show False from by cases r1 <;> exact q).elim
    | cons r2 r =>
      cases r with
      | cons _ _ => exact (show False from by cases r1 <;> cases r2 <;> exact q).elim
      | nil =>
        cases r1 with
        | int i =>
          cases r2 with
          | int j =>
            obtain ⟨h1, h2, h3, h4, h5, q⟩ := q
            refine ⟨i, j, rfl, ⟨by omega, by omega, by omega, by omega⟩, ?_⟩
            exact k _ _ W' H' s w' (jok_range (by rw [sizeLine_val]; omega)) q
          | _ => exact (show False from q).elim
        | _ => exact (show False from by cases r2 <;> exact q).elim
/-- enumerate, zip -/
def enumL (ds : List D) : List D := ds.mapIdx fun i d => .tup [.int (i : Int), d]
theorem jok_enum {K : PySem.W.Frag} {W : Wd} {a : Addr} {xs : List V} {ds : List D} (h : W.F a = some (.lst xs)) (hz : xs.length ≤ sizeLine) (r : RepA K W xs ds) : JOk K (Ite K a) W (enumL ds) where
  len := by unfold enumL; rw [List.length_mapIdx, ← r.length]; exact hz
  go := fun i W' H' l w hi => by
    have hi' : i < xs.length := by rw [r.length]; simpa [enumL] using hi
    exact ⟨xs, xs[i], w.sql l h, by simp [hi']⟩
  yld := fun i W' H' x H'' l w hi y => by
    obtain ⟨T, x', rfl, nT, rfl, y⟩ := y
    obtain ⟨d, h1, h2⟩ := r.get (y xs (w.sql l h))
    refine ⟨W'.add T (.tup [.int (i : Nat), x']), .tup [.int (i : Int), d], Step.add w nT, w.add nT, ?_, .tup (.inl upd_same) (by rw [sizeLine_val]; simp only [List.length_cons, List.length_nil]; omega) (.cons (.int _) (.cons ((h2.mono l).mono (Wd.le_add (w.noF nT))) .nil))⟩
    unfold enumL
    rw [List.getElem?_mapIdx, h1]; rfl
  stop := fun W' H' l w => ⟨xs, w.sql l h, by unfold enumL; rw [List.length_mapIdx, r.length]; exact Nat.le_refl _⟩
def iEn (w : WA) : WA := fun ε Q => w ε fun ds => match ds with
  | [.lst es] => Q (enumL es)
  | _ => False
theorem vi_enum {elts : List Expr} {kk : Nat} {p pos tpos : Pos} {w : WA} (hK : C.K = X.K) (hg : Gl X "enumerate") (hm : X.mg "enumerate" = none) (ha : VA X C [e] w) (hs : starEach [e] X.env = [(false, eval e X.env)] := by rfl) : VI X C (.Tuple elts kk tpos) (.Call (.Name "enumerate" p) [e] [] pos) (iEn w) :=
  PI.imp (pi_enum hg hm ha hs) fun σ H R q => by
  obtain ⟨W, ε, Q, c, hw, k⟩ := q
  refine ⟨W, ε, _, c, hw, fun ds vs W' H' s w' r q => ?_⟩
  cases r with
  | nil => exact (show False from q).elim
  | cons r1 r =>
    cases r with
    | cons _ _ => exact (show False from by cases r1 <;> exact q).elim
    | nil =>
      cases r1 with
      | lst h z ra => exact ⟨_, _, rfl, .inl (.inl (w'.same _ _ h)), k _ _ W' H' s w' (hK ▸ jok_enum h z ra) q⟩
      | _ => exact (show False from q).elim
def zipL (ds es : List D) : List D := List.zipWith (fun d e => D.tup [d, e]) ds es
theorem jok_zip {K : PySem.W.Frag} {W : Wd} {a b : Addr} {xs ys : List V} {ds es : List D} (h : W.F a = some (.lst xs)) (hz : xs.length ≤ sizeLine) (r : RepA K W xs ds) (h' : W.F b = some (.lst ys)) (r' : RepA K W ys es) : JOk K (Itz K a b) W (zipL ds es) where
  len := by unfold zipL; rw [List.length_zipWith, ← r.length]; omega
  go := fun i W' H' l w hi => by
    unfold zipL at hi; rw [List.length_zipWith, ← r.length, ← r'.length] at hi
    have i1 : i < xs.length := by omega
    have i2 : i < ys.length := by omega
    exact ⟨xs, ys, xs[i], ys[i], w.sql l h, w.sql l h', by simp [i1], by simp [i2]⟩
  yld := fun i W' H' x H'' l w hi y => by
    obtain ⟨T, x', y', rfl, nT, rfl, q1, q2⟩ := y
    obtain ⟨d, h1, h2⟩ := r.get (q1 xs (w.sql l h))
    obtain ⟨e, h3, h4⟩ := r'.get (q2 ys (w.sql l h'))
    refine ⟨W'.add T (.tup [x', y']), .tup [d, e], Step.add w nT, w.add nT, ?_, .tup (.inl upd_same) (by rw [sizeLine_val]; simp only [List.length_cons, List.length_nil]; omega) (.cons ((h2.mono l).mono (Wd.le_add (w.noF nT))) (.cons ((h4.mono l).mono (Wd.le_add (w.noF nT))) .nil))⟩
    unfold zipL
    rw [List.getElem?_zipWith, h1, h3]
  stop := fun W' H' l w => ⟨xs, ys, w.sql l h, w.sql l h', by
    unfold zipL; rw [List.length_zipWith, r.length, r'.length]; omega⟩
theorem jok_zipT {K : PySem.W.Frag} {W : Wd} {a b : Addr} {xs ys : List V} {ds es : List D} (h : TupAt K W.F a xs) (hz : xs.length ≤ sizeLine) (r : RepA K W xs ds) (h' : TupAt K W.F b ys) (r' : RepA K W ys es) : JOk K (RZ.ItzT K a b) W (zipL ds es) where
  len := by unfold zipL; rw [List.length_zipWith, ← r.length]; omega
  go := fun i W' H' l w hi => by
    unfold zipL at hi; rw [List.length_zipWith, ← r.length, ← r'.length] at hi
    have i1 : i < xs.length := by omega
    have i2 : i < ys.length := by omega
    exact ⟨xs, ys, xs[i], ys[i], h.sq (l.F.trans w.same), h'.sq (l.F.trans w.same), by simp [i1], by simp [i2]⟩
  yld := fun i W' H' x H'' l w hi y => by
    obtain ⟨T, x', y', rfl, nT, rfl, q1, q2⟩ := y
    obtain ⟨d, h1, h2⟩ := r.get (q1 xs (h.sq (l.F.trans w.same)))
    obtain ⟨e, h3, h4⟩ := r'.get (q2 ys (h'.sq (l.F.trans w.same)))
    refine ⟨W'.add T (.tup [x', y']), .tup [d, e], Step.add w nT, w.add nT, ?_, .tup (.inl upd_same) (by rw [sizeLine_val]; simp only [List.length_cons, List.length_nil]; omega) (.cons ((h2.mono l).mono (Wd.le_add (w.noF nT))) (.cons ((h4.mono l).mono (Wd.le_add (w.noF nT))) .nil))⟩
    unfold zipL
    rw [List.getElem?_zipWith, h1, h3]
  stop := fun W' H' l w => ⟨xs, ys, h.sq (l.F.trans w.same), h'.sq (l.F.trans w.same), by
    unfold zipL; rw [List.length_zipWith, r.length, r'.length]; omega⟩
def iZp (w : WA) : WA := fun ε Q => w ε fun ds => match ds with
  | [.lst ds, .lst es] => Q (zipL ds es)
  | [.tup ds, .tup es] => Q (zipL ds es)
  | _ => False
theorem vi_zip {e2 : Expr} {elts : List Expr} {kk : Nat} {p pos tpos : Pos} {w : WA} (hK : C.K = X.K) (hg : Gl X "zip") (hm : X.mg "zip" = none) (ha : VA X C [e, e2] w) (hs : starEach [e, e2] X.env = (false, eval e X.env) :: starEach [e2] X.env := by rfl) (hpl : (backTo pos (starEach [e2] X.env)).any (·.1) = false := by rfl) : VI X C (.Tuple elts kk tpos) (.Call (.Name "zip" p) [e, e2] [] pos) (iZp w) :=
  PI.imp (RZ.pi_zipA hg hm ha hs hpl) fun σ H R q => by
  obtain ⟨W, ε, Q, c, hw, k⟩ := q
  refine ⟨W, ε, _, c, hw, fun ds vs W' H' s w' r q => ?_⟩
  cases r with
  | nil => exact (show False from q).elim
  | cons r1 r =>
    cases r with
    | nil => exact (show False from by cases r1 <;> exact q).elim
    | cons r2 r =>
      cases r with
      | cons _ _ => exact (show False from by cases r1 <;> cases r2 <;> exact q).elim
      | nil =>
        cases r1 with
        | lst h z ra =>
          cases r2 with
          | lst h' z' ra' => exact ⟨_, _, _, _, rfl, .inl ⟨.inl (.inl (w'.same _ _ h)), .inl (.inl (w'.same _ _ h')), k _ _ W' H' s w' (hK ▸ jok_zip h z ra h' ra') q⟩⟩
          | _ => exact (show False from q).elim
        | tup h z ra =>
          cases r2 with
          | tup h' z' ra' => exact ⟨_, _, _, _, rfl, .inr ⟨hK ▸ h.sq w'.same, hK ▸ h'.sq w'.same, k _ _ W' H' s w' (hK ▸ jok_zipT h z ra h' ra') q⟩⟩
          | _ => exact (show False from q).elim
        | _ => exact (show False from by cases r2 <;> exact q).elim

/-! ### for -/
/-- the turns -/
def turns (g : WG) (b : WS) (V : VEnds) : List D → Ev → Prop
  | [], ε => V.nx ε
  | d :: ds, ε => g d ε fun ε' => b { V with nx := turns g b V ds, ct := turns g b V ds, bk := V.nx } ε'
def wFor (it : WA) (g : WG) (b : WS) : WS := fun V ε => it ε fun ds => turns g b V ds ε
theorem drop_cons {α : Type} {l : List α} {i : Nat} {x : α} (h : l[i]? = some x) : l.drop i = x :: l.drop (i + 1) := by
  obtain ⟨hi, rfl⟩ := List.getElem?_eq_some_iff.mp h
  exact List.drop_eq_getElem_cons hi
theorem vs_for {iter : Expr} {body : List Stmt} {pos : Pos} {js : List Nat} {it : WA} {g : WG} {b : WS} (hp : PassesOwn (model X.prog X.w) X.A X.env X.xe) (hc : X.calm = true) (hi : VI X C tg iter it) (hg : VG X C js tg g) (hb : VSs X C body b)
    (hs : ∀ x, foldedSetIterable iter X.env x = pure x := by intro _; rfl) : VS X C (.For tg iter body [] pos) (wFor it g b) := PS.imp (ps_for hp hc hi hg hb hs) fun D' σ H q => by
  obtain ⟨W, ε, V, c, hw, k⟩ := q
  refine ⟨W, ε, _, c, hw, fun ds J W' H' s w' j q => ?_⟩
  refine ⟨fun i m σ1 H1 => m = ds.length - i ∧ i ≤ ds.length ∧ ∃ W1 ε1, W'.le W1 ∧ COk C W1 H1 ε1 σ1 ∧ turns g b V (ds.drop i) ε1, ⟨_, rfl, Nat.zero_le _, W', ε, .refl, c.step s w', q⟩, ?_⟩
  rintro i m σ1 H1 ⟨rfl, hi, W1, ε1, l1, c1, t1⟩
  by_cases hlt : i < ds.length
  · refine .inr ⟨j.go i W1 H1 l1 c1.w hlt, fun σ2 H2 => ∃ W2 ε2, W'.le W2 ∧ COk C W2 H2 ε2 σ2 ∧ turns g b V (ds.drop (i + 1)) ε2, ?_, ?_⟩
    · rintro σ2 H2 ⟨W2, ε2, l2, c2, t2⟩
      exact ⟨_, by omega, rfl, hlt, W2, ε2, l2, c2, t2⟩
    · intro x H2 y
      obtain ⟨W2, d, s2, w2, hd, r2⟩ := j.yld i W1 H1 x H2 l1 c1.w hlt y
      rw [drop_cons hd] at t1
      refine ⟨W2, ε1, d, _, c1.step s2 w2, r2, t1, fun ε3 σ3 c3 _ q3 => ?_⟩
      refine ⟨W2, ε3, _, c3, q3, ?_⟩
      have kk : EndsOk C W2 V D' := k.mono ((s.le.trans l1).trans s2.le)
      exact ⟨fun W4 H4 ε4 σ4 l4 c4 q4 => ⟨W4, ε4, (l1.trans s2.le).trans l4, c4, q4⟩, kk.rt, kk.rn, kk.nx, fun W4 H4 ε4 σ4 l4 c4 q4 => ⟨W4, ε4, (l1.trans s2.le).trans l4, c4, q4⟩⟩
  · have e : i = ds.length := by omega
    subst e
    rw [List.drop_length] at t1
    exact .inl ⟨j.stop W1 H1 l1 c1.w, k.nx W1 H1 ε1 σ1 (s.le.trans l1) c1 t1⟩
/-! ### while -/
def wWhile (c : WT) (b : WS) : WS := fun V ε => ∃ I : Nat → Ev → Prop, (∃ m, I m ε) ∧ ∀ m ε, I m ε → c ε fun r => if r = true then b { V with nx := fun ε' => ∃ m', m' < m ∧ I m' ε', ct := fun ε' => ∃ m', m' < m ∧ I m' ε', bk := V.nx } ε else V.nx ε
theorem vs_while {cd : Expr} {body : List Stmt} {pos : Pos} {wc : WT} {b : WS} (hp : PassesOwn (model X.prog X.w) X.A X.env X.xe) (hc : VT X C cd wc) (hb : VSs X C body b) : VS X C (.While cd body [] pos) (wWhile wc b) := PS.imp (ps_while hp hc hb) fun D' σ H q => by
  obtain ⟨W, ε, V, c, ⟨Iv, ⟨m0, i0⟩, turn⟩, k⟩ := q
  refine ⟨fun m σ1 H1 => ∃ W1 ε1, W.le W1 ∧ COk C W1 H1 ε1 σ1 ∧ Iv m ε1, ⟨m0, W, ε, .refl, c, i0⟩, ?_⟩
  rintro m σ1 H1 ⟨W1, ε1, l1, c1, i1⟩
  refine ⟨W1, ε1, _, c1, turn m ε1 i1, fun r W2 H2 s2 w2 q2 => ?_⟩
  cases r with
  | true =>
    refine ⟨fun σ3 H3 => ∃ m', m' < m ∧ ∃ W3 ε3, W.le W3 ∧ COk C W3 H3 ε3 σ3 ∧ Iv m' ε3, ?_, W2, ε1, _, c1.step s2 w2, q2, ?_⟩
    · rintro σ3 H3 ⟨m', hm, q⟩
      exact ⟨m', hm, q⟩
    · have kk : EndsOk C W2 V D' := k.mono (l1.trans s2.le)
      exact ⟨fun W4 H4 ε4 σ4 l4 c4 ⟨m', hm, q4⟩ => ⟨m', hm, W4, ε4, (l1.trans s2.le).trans l4, c4, q4⟩, kk.rt, kk.rn, kk.nx, fun W4 H4 ε4 σ4 l4 c4 ⟨m', hm, q4⟩ => ⟨m', hm, W4, ε4, (l1.trans s2.le).trans l4, c4, q4⟩⟩
  | false => exact k.nx W2 H2 ε1 σ1 (l1.trans s2.le) (c1.step s2 w2) q2
end
end VL


set_option Elab.async false
set_option linter.all false
set_option maxRecDepth 100000
set_option maxHeartbeats 4000000
namespace VL
open PySem PySem.Spec PyProof.Rows L2

/-! ### comprehensions -/
def eWipe (ε : Ev) : List Nat → Ev
  | [] => ε
  | v :: vs => (eWipe ε vs).set v .un
theorem eWipe_get {ε : Ev} {i : Nat} {x : S} : ∀ {vs : List Nat}, (eWipe ε vs)[i]? = some x → x = .un ∨ (ε[i]? = some x ∧ i ∉ vs)
  | [], h => .inr ⟨h, by simp⟩
  | v :: vs, h => by
    unfold eWipe at h
    rcases getElem?_set' _ _ _ _ _ h with ⟨rfl, e, _⟩ | ⟨n, e⟩
    · exact .inl e
    · rcases eWipe_get e with z | ⟨z1, z2⟩
      · exact .inl z
      · exact .inr ⟨z1, by simp [n, z2]⟩
theorem eWipe_length {ε : Ev} : ∀ vs : List Nat, (eWipe ε vs).length = ε.length
  | [] => rfl
  | v :: vs => by unfold eWipe; rw [List.length_set, eWipe_length vs]
theorem wipe_at {σ : St} {i : Nat} : ∀ {vs : List Nat}, i ∉ vs → (wipe σ vs)[i]? = σ[i]?
  | [], _ => rfl
  | v :: vs, h => by
    unfold wipe
    simp only [List.mem_cons, not_or] at h
    rw [List.getElem?_set_ne (Ne.symm h.1)]
    exact wipe_at h.2
theorem wipe_in {σ : St} {i : Nat} : ∀ {vs : List Nat}, i ∈ vs → i < σ.length → (wipe σ vs)[i]? = some none
  | [], h, _ => by simp at h
  | v :: vs, h, hl => by
    unfold wipe
    by_cases e : v = i
    · subst e
      rw [List.getElem?_set_self (by rw [wipe_length]; exact hl)]
    · rw [List.getElem?_set_ne e]
      exact wipe_in (by simpa [Ne.symm e] using h) hl
theorem wipe_congr {σ τ : St} {vs : List Nat} (hl : τ.length = σ.length) (h : ∀ j, j ∉ vs → τ[j]? = (wipe σ vs)[j]?) : wipe τ vs = wipe σ vs := by
  refine List.ext_getElem? fun i => ?_
  by_cases hi : i ∈ vs
  · by_cases hlt : i < σ.length
    · rw [wipe_in hi hlt, wipe_in hi (by rw [hl]; exact hlt)]
    · rw [List.getElem?_eq_none (by rw [wipe_length]; omega), List.getElem?_eq_none (by rw [wipe_length]; omega)]
  · rw [wipe_at hi, h i hi]
theorem EOk.wipe {K : PySem.W.Frag} {W : Wd} {H0 H : Hp} {ε : Ev} {σ : St} (e : EOk K W H0 H ε σ) (vs : List Nat) : EOk K W H0 H (eWipe ε vs) (wipe σ vs) where
  len := by rw [eWipe_length, wipe_length, e.len]
  val := fun i d h => by
    rcases eWipe_get h with z | ⟨z1, z2⟩
    · cases z
    · rw [wipe_at z2]; exact e.val i d z1
  own := fun i ds h => by
    rcases eWipe_get h with z | ⟨z1, z2⟩
    · cases z
    · rw [wipe_at z2]; exact e.own i ds z1
  ne := fun i j ds es a hij h1 h2 s1 s2 => by
    rcases eWipe_get h1 with z | ⟨z1, z2⟩
    · cases z
    · rcases eWipe_get h2 with z | ⟨y1, y2⟩
      · cases z
      · rw [wipe_at z2] at s1
        rw [wipe_at y2] at s2
        exact e.ne i j ds es a hij z1 y1 s1 s2
/-- one's own new list, while it grows -/
structure Mine (W : Wd) (H : Hp) (p : Addr) (xs : List V) : Prop where
  h : H p = some (.lst xs)
  F : W.F p = none
  P : ¬ W.P p
theorem Mine.step {W W' : Wd} {H H' : Hp} {p : Addr} {xs : List V} (m : Mine W H p xs) (s : Step W H W' H') : Mine W' H' p xs where
  h := s.keep p _ m.h m.P
  F := by
    cases q : W'.F p with
    | none => rfl
    | some o =>
      rcases s.newF p o q with z | z
      · rw [m.F] at z; cases z
      · rw [m.h] at z; cases z
  P := fun q => by
    rcases s.newP p q with z | z
    · exact m.P z
    · rw [m.h] at z; cases z
theorem Step.writeNew {W W' : Wd} {H H' : Hp} {p : Addr} {o : HO} (s : Step W H W' H') (h : H p = none) : Step W H W' (upd H' p o) where
  le := s.le
  keep := fun a x e n => by rw [upd_ne (ne_of_none e h)]; exact s.keep a x e n
  newF := s.newF
  newP := s.newP
  there := fun a x e => by rw [upd_ne (ne_of_none e h)]; exact s.there a x e
def compL (g : WG) (t : WT) (e : WE) (R : List D → Prop) (ε : Ev) : List D → List D → Prop
  | [], acc => R acc
  | d :: ds, acc => g d ε fun ε' => t ε' fun b => if b = true then e ε' fun y => compL g t e R ε ds (acc ++ [y]) else compL g t e R ε ds acc
def nComp (vs : List Nat) (it : WA) (g : WG) (t : WT) (e : WE) : WA := fun ε R => it ε fun ds => compL g t e R (eWipe ε vs) ds []
def tTru : WT := fun _ R => R true
abbrev VTs (X : Cx) (C : VC) (ifs : List Expr) (t : WT) : Prop := PTs X ifs (liftT C t)
theorem PTs.imp {X : Cx} {ifs : List Expr} {t t' : TT} (h : PTs X ifs t) (i : ∀ σ H Q, t' σ H Q → t σ H Q) : PTs X ifs t' := ⟨fun pins s σ H Q I q => h.run pins s σ H Q I (i _ _ _ q)⟩
section
variable {X : Cx} {C : VC} {e tg : Expr}
theorem vts_nil : VTs X C [] tTru := PTs.imp pts_nil fun σ H Q q => by
  obtain ⟨W, ε, R, c, hw, k⟩ := q
  exact k true W H .refl c.w hw
theorem vts_one {c : Expr} {t : WT} (h : VT X C c t) : VTs X C [c] t := pts_one h
theorem lc_lift {vs js : List Nat} {it : WA} {g : WG} {t : WT} {el : WE} (hjs : ∀ j ∈ js, j ∈ vs) {σ : St} {H : Hp} {Q : VK} (q : liftN C (nComp vs it g t el) σ H Q) : tLc (liftI C it) (liftG C js g) (liftT C t) (liftE C el) vs σ H Q := by
  obtain ⟨W, ε, R, c, hw, k⟩ := q
  refine ⟨W, ε, _, c, hw, fun ds J W' H' s w' j q p np => ?_⟩
  refine ⟨fun i m H2 => m = ds.length - i ∧ i ≤ ds.length ∧ ∃ W2 xs acc, Step W' H' W2 H2 ∧ WOk W2 H2 ∧ Mine W2 H2 p xs ∧ RepA C.K W2 xs acc ∧ xs.length ≤ i ∧ compL g t el R (eWipe ε vs) (ds.drop i) acc,
    ⟨_, rfl, Nat.zero_le _, W', [], [], Step.new w' np, w'.new np, ⟨upd_same, w'.noF np, w'.noP np⟩, .nil, Nat.zero_le _, q⟩, ?_⟩
  rintro i m H2 ⟨rfl, hi, W2, xs, acc, s2, w2, mi, ra, hx, cl⟩
  by_cases hlt : i < ds.length
  · refine .inr ⟨j.go i W2 H2 s2.le w2 hlt, fun H3 => ∃ W3 xs acc, Step W' H' W3 H3 ∧ WOk W3 H3 ∧ Mine W3 H3 p xs ∧ RepA C.K W3 xs acc ∧ xs.length ≤ i + 1 ∧ compL g t el R (eWipe ε vs) (ds.drop (i + 1)) acc, ?_, ?_⟩
    · rintro H3 ⟨W3, xs3, acc3, q3⟩
      exact ⟨_, by omega, rfl, hlt, W3, xs3, acc3, q3⟩
    · intro x H3 y
      obtain ⟨W3, d, s3, w3, hd, r3⟩ := j.yld i W2 H2 x H3 s2.le w2 hlt y
      rw [drop_cons hd] at cl
      have s03 := s2.trans s3
      have c3 : COk C W3 H3 (eWipe ε vs) (wipe σ vs) := by
        have c' := c.step (s.trans s03) w3
        exact ⟨c'.w, c'.st, c'.e.wipe vs⟩
      refine ⟨W3, _, d, _, c3, r3, cl, fun ε4 σ4 c4 f4 q4 => ⟨?_, ?_⟩⟩
      · refine wipe_congr ?_ fun j hj => f4.2 j fun z => hj (hjs j z)
        rw [f4.1, wipe_length]
      · refine ⟨W3, ε4, _, c4, q4, fun b W5 H5 s5 w5 q5 => ?_⟩
        have mi5 := (mi.step s3).step s5
        have ra5 := ((ra.mono s3.le).mono s5.le)
        have s05 := s03.trans s5
        cases b with
        | false => exact ⟨W5, xs, acc, s05, w5, mi5, ra5, Nat.le_succ_of_le hx, q5⟩
        | true =>
          refine ⟨W5, ε4, _, c4.step s5 w5, q5, fun y' v6 W6 H6 s6 w6 r6 q6 => ?_⟩
          have mi6 := mi5.step s6
          have hl := j.len
          refine ⟨xs, mi6.h, by omega, W6, xs ++ [v6], acc ++ [y'], (s05.trans s6).writeNew np, w6.write mi6.F mi6.P, ⟨upd_same, mi6.F, mi6.P⟩, (ra5.mono s6.le).append (.cons r6 .nil), ?_, q6⟩
          rw [List.length_append]
          show xs.length + 1 ≤ i + 1
          omega
  · have e : i = ds.length := by omega
    subst e
    rw [List.drop_length] at cl
    have hl := j.len
    exact .inl ⟨j.stop W2 H2 s2.le w2, k acc p xs W2 H2 (s.trans s2) w2 mi.h ra (by omega) mi.F mi.P (s.none_of np) cl⟩
section
variable {elt iter : Expr} {ifs : List Expr} {scope : Scope} {own : List (Str × Nat)} {pos spos py : Pos} {js : List Nat} {it : WA} {g : WG} {t : WT} {el : WE}
theorem vn_lc (own : List (Str × Nat)) (hc : X.calm = true) (hN : X.N.Nodup) (hi : VI X C tg iter it) (ok : BlkOk X.N X.env.scope scope own)
    (hg : ∀ (s : Shared) (H : Hp) (c : Addr) (cl : List (Str × Addr)) (fp : List Addr), VG (X.blk s H scope (compEnvC scope cl c X.env) fp) C js tg g) (ht : ∀ (s : Shared) (H : Hp) (c : Addr) (cl : List (Str × Addr)) (fp : List Addr), VTs (X.blk s H scope (compEnvC scope cl c X.env) fp) C ifs t)
    (he : ∀ (s : Shared) (H : Hp) (c : Addr) (cl : List (Str × Addr)) (fp : List Addr), VE (X.blk s H scope (compEnvC scope cl c X.env) fp) C elt el) (hjs : ∀ j ∈ js, j ∈ own.map (·.2) := by decide) (hs : ∀ x, foldedSetIterable iter X.env x = pure x := by intro _; rfl) :
    VN X C (.ListComp elt [⟨tg, iter, ifs, 0⟩] scope pos) (nComp (own.map (·.2)) it g t el) := PE.imp (pe_lc hc hN hi ok hg ht he hs) fun _ _ _ q => lc_lift hjs q
theorem vs_setLc {i : Nat} {y : Str} (own : List (Str × Nat)) (hc : X.calm = true) (hN : X.N.Nodup) (hy : X.N[i]? = some y) (hyl : X.env.scope.names.lookup y = some .local)
    (hsw : swapsWith (.ListComp elt [⟨tg, iter, ifs, 0⟩] scope pos) (some (.Name y py)) spos.line X.env = pure true) (hi : VI X C tg iter it) (ok : BlkOk X.N X.env.scope scope own)
    (hg : ∀ (s : Shared) (H : Hp) (c : Addr) (cl : List (Str × Addr)) (fp : List Addr), VG (X.blk s H scope (compEnvC scope cl c X.env) fp) C js tg g) (ht : ∀ (s : Shared) (H : Hp) (c : Addr) (cl : List (Str × Addr)) (fp : List Addr), VTs (X.blk s H scope (compEnvC scope cl c X.env) fp) C ifs t)
    (he : ∀ (s : Shared) (H : Hp) (c : Addr) (cl : List (Str × Addr)) (fp : List Addr), VE (X.blk s H scope (compEnvC scope cl c X.env) fp) C elt el) (hjs : ∀ j ∈ js, j ∈ own.map (·.2) := by decide) (hs : ∀ x, foldedSetIterable iter X.env x = pure x := by intro _; rfl) :
    VS X C (.Assign [.Name y py] (.ListComp elt [⟨tg, iter, ifs, 0⟩] scope pos) spos) (wSet i (eFrz (nComp (own.map (·.2)) it g t el))) := PS.imp (ps_setLc hc hN hy hyl hsw hi ok hg ht he hs) fun D' σ H q => by
  obtain ⟨W, ε, V, c, hw, k⟩ := q
  refine lc_lift hjs ⟨W, ε, _, c, hw, fun ds a xs W' H' s w' ha r z hF hP hn q => ?_⟩
  have s2 : Step W H (W'.add a (.lst xs)) H' := frz_step s ha hF hn
  have w2 := w'.freeze ha hF hP
  have c' := c.step s2 w2
  exact k.nx _ H' _ _ s2.le ⟨c'.w, c'.st, c'.e.set (.lst upd_same z (r.mono (Wd.le_add hF)))⟩ q
theorem vs_setLcN {i : Nat} {y : Str} (own : List (Str × Nat)) (hc : X.calm = true) (hN : X.N.Nodup) (hy : X.N[i]? = some y) (hyl : X.env.scope.names.lookup y = some .local)
    (hsw : swapsWith (.ListComp elt [⟨tg, iter, ifs, 0⟩] scope pos) (some (.Name y py)) spos.line X.env = pure true) (hi : VI X C tg iter it) (ok : BlkOk X.N X.env.scope scope own)
    (hg : ∀ (s : Shared) (H : Hp) (c : Addr) (cl : List (Str × Addr)) (fp : List Addr), VG (X.blk s H scope (compEnvC scope cl c X.env) fp) C js tg g) (ht : ∀ (s : Shared) (H : Hp) (c : Addr) (cl : List (Str × Addr)) (fp : List Addr), VTs (X.blk s H scope (compEnvC scope cl c X.env) fp) C ifs t)
    (he : ∀ (s : Shared) (H : Hp) (c : Addr) (cl : List (Str × Addr)) (fp : List Addr), VE (X.blk s H scope (compEnvC scope cl c X.env) fp) C elt el) (hjs : ∀ j ∈ js, j ∈ own.map (·.2) := by decide) (hs : ∀ x, foldedSetIterable iter X.env x = pure x := by intro _; rfl) :
    VS X C (.Assign [.Name y py] (.ListComp elt [⟨tg, iter, ifs, 0⟩] scope pos) spos) (wSetN i (nComp (own.map (·.2)) it g t el)) := PS.imp (ps_setLc hc hN hy hyl hsw hi ok hg ht he hs) fun D' σ H q => by
  obtain ⟨W, ε, V, c, hw, k⟩ := q
  exact lc_lift hjs ⟨W, ε, _, c, hw, fun ds a xs W' H' s w' ha r z hF hP hn q => k.nx W' H' _ _ s.le (setN_ok c s w' ha r z hF hP hn) q⟩
end

/-! ### tests -/
def eT (w : WE) : WT := fun ε R => w ε fun d => match d with
  | .bl b => R b
  | _ => False
theorem lift_tT {w : WE} {σ : St} {H : Hp} {Q : Bool → Hp → Prop} (q : liftT C (eT w) σ H Q) : liftE C w σ H fun x H' => ∃ k, x = .bl k ∧ Q k H' := by
  obtain ⟨W, ε, R, c, hw, k⟩ := q
  refine ⟨W, ε, _, c, hw, fun d v W' H' s w' r q => ?_⟩
  cases r with
  | bl b => exact ⟨b, rfl, k b W' H' s w' q⟩
  | _ => exact (show False from q).elim
theorem vt_cmp {op : CmpOp} {a b : Expr} {pos : Pos} {r : R2} {g : D → D → (D → Prop) → Prop} {wa wb : WE} (ho : OpR X (compareOp op) r) (hr : VR2 C r g) (ha : VE X C a wa) (hb : VE X C b wb) (hm : behindInMarks op b = false) : VT X C (.Compare a [op] [b] pos) (eT (e2 g wa wb)) :=
  PT.imp (pt_cmpR ho ha hb hm) fun _ _ _ q => lift_t2 hr (lift_tT q)
theorem ve_cmp {op : CmpOp} {a b : Expr} {pos : Pos} {r : R2} {g : D → D → (D → Prop) → Prop} {wa wb : WE} (ho : OpR X (compareOp op) r) (hr : VR2 C r g) (ha : VE X C a wa) (hb : VE X C b wb) (hm : behindInMarks op b = false) : VE X C (.Compare a [op] [b] pos) (e2 g wa wb) :=
  PE.imp (pe_cmpR ho ha hb hm) fun _ _ _ q => lift_t2 hr q
def eChain (g g' : D → D → (D → Prop) → Prop) (a b c : WE) : WE := fun ε R => a ε fun x => b ε fun y => g x y fun z => match z with
  | .bl k => if k = true then c ε fun w => g' y w R else R (.bl false)
  | _ => False
theorem lift_chain {r r' : R2} {g g' : D → D → (D → Prop) → Prop} {a b c : WE} (hr : VR2 C r g) (hr' : VR2 C r' g') {σ : St} {H : Hp} {Q : VK} (q : liftE C (eChain g g' a b c) σ H Q) : tChain r r' (liftE C a) (liftE C b) (liftE C c) σ H Q := by
  obtain ⟨W, ε, R, c0, hw, k⟩ := q
  refine ⟨W, ε, _, c0, hw, fun x v W' H' s w' rv q => ⟨W', ε, _, c0.step s w', q, fun y u W2 H2 s2 w2 ru q2 => ?_⟩⟩
  refine hr W2 H2 v u x y _ _ w2 (rv.mono s2.le) ru q2 fun d z W3 H3 s3 w3 r3 q3 => ?_
  have s03 := (s.trans s2).trans s3
  cases r3 with
  | bl b =>
    refine ⟨b, rfl, ?_⟩
    cases b with
    | true => exact ⟨W3, ε, _, c0.step s03 w3, q3, fun d4 v4 W4 H4 s4 w4 r4 q4 => hr' W4 H4 u v4 y d4 R Q w4 ((ru.mono s3.le).mono s4.le) r4 q4 (Post.after k (s03.trans s4))⟩
    | false => exact k _ _ W3 H3 s03 w3 (.bl _) q3
  | _ => exact (show False from q3).elim
theorem ve_chain {op op' : CmpOp} {a b c : Expr} {pos : Pos} {r r' : R2} {g g' : D → D → (D → Prop) → Prop} {wa wb wc : WE} (ho : OpR X (compareOp op) r) (hr : VR2 C r g) (ho' : OpR X (compareOp op') r') (hr' : VR2 C r' g') (ha : VE X C a wa) (hb : VE X C b wb) (hc : VE X C c wc) (hm : lastMarks [op, op'] [b, c] = false := by rfl) :
    VE X C (.Compare a [op, op'] [b, c] pos) (eChain g g' wa wb wc) := PE.imp (pe_chain ho ho' ha hb hc hm) fun _ _ _ q => lift_chain hr hr' q
theorem vt_chain {op op' : CmpOp} {a b c : Expr} {pos : Pos} {r r' : R2} {g g' : D → D → (D → Prop) → Prop} {wa wb wc : WE} (ho : OpR X (compareOp op) r) (hr : VR2 C r g) (ho' : OpR X (compareOp op') r') (hr' : VR2 C r' g') (ha : VE X C a wa) (hb : VE X C b wb) (hc : VE X C c wc) (hm : lastMarks [op, op'] [b, c] = false := by rfl) :
    VT X C (.Compare a [op, op'] [b, c] pos) (eT (eChain g g' wa wb wc)) := PT.imp (pt_chain ho ho' ha hb hc hm) fun _ _ _ q => lift_chain hr hr' (lift_tT q)
theorem vt_val {w : WE} (h : VE X C e w) (he : ∀ whole, isTrue e X.env whole = (do let v ← whole; standAt e.pos; holding [v] (truthy v)) := by intro _; rfl) : VT X C e (eT w) := PT.imp (pt_val h he) fun _ _ _ q => lift_tT q
def gTru (d : D) (R : Bool → Prop) : Prop := match d with
  | .non => R false
  | .bl b => R b
  | .int i => R (i != 0)
  | .str s => s.length ≤ sizeLine ∧ R ((s.length : Int) != 0)
  | .lst ds => R (!ds.isEmpty)
  | .tup ds => R (!ds.isEmpty)
  | .dic ks _ => R (!ks.isEmpty)
  | _ => False
def eTru (w : WE) : WT := fun ε R => w ε fun d => gTru d R
theorem RepA.isEmpty {K : PySem.W.Frag} {W : Wd} {xs : List V} {ds : List D} (r : RepA K W xs ds) : xs.isEmpty = ds.isEmpty := by cases r <;> rfl
theorem vt_truth {w : WE} (hK : C.K = X.K) (h : VE X C e w) (he : ∀ whole, isTrue e X.env whole = (do let v ← whole; standAt e.pos; holding [v] (truthy v)) := by intro _; rfl) : VT X C e (eTru w) := PT.imp (pt_truth h he) fun σ H Q q => by
  obtain ⟨W, ε, R, c, hw, k⟩ := q
  refine ⟨W, ε, _, c, hw, fun d v W' H' s w' r q => ?_⟩
  cases r with
  | non => exact ⟨_, rfl, k _ W' H' s w' q⟩
  | bl b => exact ⟨_, rfl, k _ W' H' s w' q⟩
  | int i => exact ⟨_, rfl, k _ W' H' s w' q⟩
  | str x => exact ⟨_, ⟨q.1, rfl⟩, k _ W' H' s w' q.2⟩
  | lst h z ra => exact ⟨_, .inl ⟨_, .inl (.inl (w'.same _ _ h)), by rw [ra.isEmpty]⟩, k _ W' H' s w' q⟩
  | tup h z ra => exact ⟨_, .inr (.inl ⟨_, hK ▸ h.sq w'.same, by rw [ra.isEmpty]⟩), k _ W' H' s w' q⟩
  | dic h z ra =>
    refine ⟨_, .inr (.inr ⟨_, w'.same _ _ h, ?_⟩), k _ W' H' s w' q⟩
    rename_i a ks xs ds
    cases ks with
    | nil => rfl
    | cons k ks =>
      cases xs with
      | nil => cases z
      | cons x xs => rfl
  | _ => exact (show False from q).elim
abbrev VW (X : Cx) (C : VC) (e : Expr) (w : WT) : Prop := PW X e (liftT C w)
theorem PW.imp {t t' : TT} (h : PW X e t) (i : ∀ σ H Q, t' σ H Q → t σ H Q) : PW X e t' := ⟨fun wh pins s σ H Q I q => h.run wh pins s σ H Q I (i _ _ _ q)⟩
def tAndW (t u : WT) : WT := fun ε R => t ε fun b => if b = true then u ε R else R false
def tOrW (t u : WT) : WT := fun ε R => t ε fun b => if b = true then R true else u ε R
def tNotW (t : WT) : WT := fun ε R => t ε fun b => R (!b)
theorem vw_and1 {a : Expr} {pos : Pos} {t : WT} (h : VT X C a t) : VW X C (.BoolOp .And [a] pos) t := pw_and1 h
theorem vw_or1 {a : Expr} {pos : Pos} {t : WT} (h : VT X C a t) : VW X C (.BoolOp .Or [a] pos) t := pw_or1 h
theorem vw_and {a b : Expr} {rest : List Expr} {pos : Pos} {t u : WT} (h : VT X C a t) (h2 : VW X C (.BoolOp .And (b :: rest) pos) u) : VW X C (.BoolOp .And (a :: b :: rest) pos) (tAndW t u) := PW.imp (pw_and h h2) fun σ H Q q => by
  obtain ⟨W, ε, R, c, hw, k⟩ := q
  refine ⟨W, ε, _, c, hw, fun b W' H' s w' q => ?_⟩
  cases b with
  | true => exact ⟨W', ε, R, c.step s w', q, fun b2 W2 H2 s2 => k b2 W2 H2 (s.trans s2)⟩
  | false => exact k _ W' H' s w' q
theorem vw_or {a b : Expr} {rest : List Expr} {pos : Pos} {t u : WT} (h : VT X C a t) (h2 : VW X C (.BoolOp .Or (b :: rest) pos) u) : VW X C (.BoolOp .Or (a :: b :: rest) pos) (tOrW t u) := PW.imp (pw_or h h2) fun σ H Q q => by
  obtain ⟨W, ε, R, c, hw, k⟩ := q
  refine ⟨W, ε, _, c, hw, fun b W' H' s w' q => ?_⟩
  cases b with
  | false => exact ⟨W', ε, R, c.step s w', q, fun b2 W2 H2 s2 => k b2 W2 H2 (s.trans s2)⟩
  | true => exact k _ W' H' s w' q
theorem vt_bool {t : WT} (h : VW X C e t) : VT X C e t := h.pt
theorem vt_not {a : Expr} {pos : Pos} {t : WT} (h : VT X C a t) : VT X C (.UnaryOp .Not a pos) (tNotW t) := PT.imp (pt_not h) fun σ H Q q => by
  obtain ⟨W, ε, R, c, hw, k⟩ := q
  exact ⟨W, ε, _, c, hw, fun b W' H' s w' q => k _ W' H' s w' q⟩
/-! as values -/
def eAnd (a b : WE) : WE := fun ε R => a ε fun x => match x with
  | .bl k => if k = true then b ε R else R (.bl false)
  | _ => False
def eOr (a b : WE) : WE := fun ε R => a ε fun x => match x with
  | .bl k => if k = true then R (.bl true) else b ε R
  | _ => False
def eNot (a : WE) : WE := fun ε R => a ε fun x => match x with
  | .bl k => R (.bl (!k))
  | _ => False
theorem ve_one {op} {a : Expr} {pos : Pos} {w : WE} (h : VE X C a w) : VE X C (.BoolOp op [a] pos) w := pe_one h
theorem ve_and {a b : Expr} {rest : List Expr} {pos : Pos} {wa wb : WE} (h : VE X C a wa) (h2 : VE X C (.BoolOp .And (b :: rest) pos) wb) : VE X C (.BoolOp .And (a :: b :: rest) pos) (eAnd wa wb) := PE.imp (pe_and h h2) fun σ H Q q => by
  obtain ⟨W, ε, R, c, hw, k⟩ := q
  refine ⟨W, ε, _, c, hw, fun d v W' H' s w' r q => ?_⟩
  cases r with
  | bl b =>
    refine ⟨b, rfl, ?_⟩
    cases b with
    | true => exact ⟨W', ε, R, c.step s w', q, Post.after k s⟩
    | false => exact k _ _ W' H' s w' (.bl _) q
  | _ => exact (show False from q).elim
theorem ve_or {a b : Expr} {rest : List Expr} {pos : Pos} {wa wb : WE} (h : VE X C a wa) (h2 : VE X C (.BoolOp .Or (b :: rest) pos) wb) : VE X C (.BoolOp .Or (a :: b :: rest) pos) (eOr wa wb) := PE.imp (pe_or h h2) fun σ H Q q => by
  obtain ⟨W, ε, R, c, hw, k⟩ := q
  refine ⟨W, ε, _, c, hw, fun d v W' H' s w' r q => ?_⟩
  cases r with
  | bl b =>
    refine ⟨b, rfl, ?_⟩
    cases b with
    | false => exact ⟨W', ε, R, c.step s w', q, Post.after k s⟩
    | true => exact k _ _ W' H' s w' (.bl _) q
  | _ => exact (show False from q).elim
theorem ve_not {a : Expr} {pos : Pos} {w : WE} (h : VE X C a w) : VE X C (.UnaryOp .Not a pos) (eNot w) := PE.imp (pe_not h) fun σ H Q q => by
  obtain ⟨W, ε, R, c, hw, k⟩ := q
  refine ⟨W, ε, _, c, hw, fun d v W' H' s w' r q => ?_⟩
  cases r with
  | bl b => exact ⟨b, rfl, k _ _ W' H' s w' (.bl _) q⟩
  | _ => exact (show False from q).elim
def eIte (t : WT) (a b : WE) : WE := fun ε R => t ε fun k => if k = true then a ε R else b ε R
theorem ve_ite {c a b : Expr} {pos : Pos} {t : WT} {wa wb : WE} (hc : VT X C c t) (ha : VE X C a wa) (hb : VE X C b wb) : VE X C (.IfExp c a b pos) (eIte t wa wb) := PE.imp (pe_ifExp hc ha hb) fun σ H Q q => by
  obtain ⟨W, ε, R, c, hw, k⟩ := q
  refine ⟨W, ε, _, c, hw, fun b W' H' s w' q => ?_⟩
  cases b with
  | true => exact ⟨W', ε, R, c.step s w', q, Post.after k s⟩
  | false => exact ⟨W', ε, R, c.step s w', q, Post.after k s⟩
/-! own lists, read without being handed on -/
def D.scalar : D → Bool
  | .non => true
  | .bl _ => true
  | .int _ => true
  | .str _ => true
  | _ => false
/-- in w the list at i is read alone; what comes out is no object -/
def eBor (i : Nat) (w : WE) : WE := fun ε R => match ε[i]? with
  | some (.own ds) => w (ε.set i (.val (.lst ds))) fun d => d.scalar = true ∧ R d
  | _ => w ε R
def Wd.cut (W : Wd) (a : Addr) : Wd := ⟨fun b => if b = a then none else W.F b, W.P⟩
theorem unfrz {W W' : Wd} {H H' : Hp} {a : Addr} {o : HO} (hF : W.F a = none) (s : Step (W.add a o) H W' H') (w : WOk W' H') : Step W H (W'.cut a) H' ∧ WOk (W'.cut a) H' := by
  refine ⟨⟨⟨fun b x e => ?_, s.le.P⟩, s.keep, fun b x e => ?_, s.newP, s.there⟩, ⟨fun b x e => ?_, fun b q => ?_⟩⟩
  · have hb : b ≠ a := fun z => by rw [z, hF] at e; cases e
    show (if b = a then none else W'.F b) = some x
    rw [if_neg hb]
    refine s.le.F b x ?_
    show upd W.F a o b = some x
    rw [upd_ne hb]; exact e
  · have e' : (if b = a then none else W'.F b) = some x := e
    by_cases hb : b = a
    · rw [if_pos hb] at e'; cases e'
    · rw [if_neg hb] at e'
      rcases s.newF b x e' with z | z
      · have z' : upd W.F a o b = some x := z
        rw [upd_ne hb] at z'; exact .inl z'
      · exact .inr z
  · have e' : (if b = a then none else W'.F b) = some x := e
    by_cases hb : b = a
    · rw [if_pos hb] at e'; cases e'
    · rw [if_neg hb] at e'; exact w.same b x e'
  · obtain ⟨z1, z2⟩ := w.pot b q
    refine ⟨?_, z2⟩
    show (if b = a then none else W'.F b) = none
    by_cases hb : b = a
    · rw [if_pos hb]
    · rw [if_neg hb]; exact z1
theorem Rep.scalar {K : PySem.W.Frag} {W W' : Wd} {v : V} {d : D} (r : Rep K W v d) (h : d.scalar = true) : Rep K W' v d := by
  cases r with
  | non => exact .non
  | bl b => exact .bl b
  | int i => exact .int i
  | str s => exact .str s
  | _ => cases h
theorem ve_bor (i : Nat) {w : WE} (h : VE X C e w) : VE X C e (eBor i w) := PE.imp h fun σ H Q q => by
  obtain ⟨W, ε, R, c, hw, k⟩ := q
  unfold eBor at hw
  split at hw
  · rename_i ds h0
    obtain ⟨a, xs, q1, q2, q3, q4, q5, q6, q7⟩ := c.e.own i ds h0
    have c' : COk C (W.add a (.lst xs)) H (ε.set i (.val (.lst ds))) σ := ⟨c.w.freeze q2 q5 q6, frz_step c.st q2 q5 q7, c.e.frz h0 q1 q2 q5 q3 q4⟩
    refine ⟨_, _, _, c', hw, fun d v W' H' s w' r q => ?_⟩
    obtain ⟨s2, w2⟩ := unfrz q5 s w'
    exact k d v _ H' s2 w2 (r.scalar q.1) q.2
  · exact ⟨W, ε, R, c, hw, k⟩
def tBor (i : Nat) (t : WT) : WT := fun ε R => match ε[i]? with
  | some (.own ds) => t (ε.set i (.val (.lst ds))) R
  | _ => t ε R
theorem vt_bor (i : Nat) {t : WT} (h : VT X C e t) : VT X C e (tBor i t) := PT.imp h fun σ H Q q => by
  obtain ⟨W, ε, R, c, hw, k⟩ := q
  unfold tBor at hw
  split at hw
  · rename_i ds h0
    obtain ⟨a, xs, q1, q2, q3, q4, q5, q6, q7⟩ := c.e.own i ds h0
    have c' : COk C (W.add a (.lst xs)) H (ε.set i (.val (.lst ds))) σ := ⟨c.w.freeze q2 q5 q6, frz_step c.st q2 q5 q7, c.e.frz h0 q1 q2 q5 q3 q4⟩
    refine ⟨_, _, _, c', hw, fun b W' H' s w' q => ?_⟩
    obtain ⟨s2, w2⟩ := unfrz q5 s w'
    exact k b _ H' s2 w2 q
  · exact ⟨W, ε, R, c, hw, k⟩
end
end VL


set_option Elab.async false
set_option linter.all false
set_option maxRecDepth 100000
set_option maxHeartbeats 4000000
namespace VL
open PySem PySem.Spec PyProof.Rows L2

/-! ### trees as the library's data -/
mutual
def D.py : D → PyData
  | .non => .none
  | .bl b => .bool b
  | .int i => .int i
  | .str s => .str s
  | .lst ds => .list (D.pyA ds)
  | .tup ds => .tuple (D.pyA ds)
  | .dic _ _ => .none
  | .scr ns => .list (ns.map .int)
  | .pot => .none
  | .raw _ => .none
def D.pyA : List D → List PyData
  | [] => []
  | d :: ds => D.py d :: D.pyA ds
end
mutual
/-- data alone: no dicts, no objects -/
def D.data : D → Bool
  | .non => true
  | .bl _ => true
  | .int _ => true
  | .str _ => true
  | .lst ds => D.dataA ds
  | .tup ds => D.dataA ds
  | .scr _ => true
  | .dic _ _ => false
  | .pot => false
  | .raw _ => false
def D.dataA : List D → Bool
  | [] => true
  | d :: ds => D.data d && D.dataA ds
end
theorem D.dataA_iff : ∀ {ds : List D}, D.dataA ds = true ↔ ∀ d ∈ ds, d.data = true
  | [] => by simp [D.dataA]
  | d :: ds => by
    simp only [D.dataA, Bool.and_eq_true, List.mem_cons, forall_eq_or_imp]
    rw [D.dataA_iff]
theorem D.pyA_map : ∀ ds : List D, D.pyA ds = ds.map D.py
  | [] => rfl
  | d :: ds => by rw [D.pyA, List.map_cons, D.pyA_map ds]
theorem dpAll_ints {K : PySem.W.Frag} {H : Hp} : ∀ ns : List Int, DpAll K H (ns.map V.int) (ns.map PyData.int)
  | [] => .nil
  | n :: ns => .cons (.int n) (dpAll_ints ns)
mutual
theorem Rep.dp {K : PySem.W.Frag} {W : Wd} {H : Hp} (w : WOk W H) : ∀ {v : V} {d : D}, Rep K W v d → d.data = true → Dp K H v d.py
  | _, _, .non, _ => .non
  | _, _, .bl b, _ => .bl b
  | _, _, .int i, _ => .int i
  | _, _, .str s, _ => .str s
  | _, _, .lst h _ r, q => .lst (.inl (.inl (w.same _ _ h))) (RepA.dp w r q)
  | _, _, .tup h _ r, q => .tup (h.sq w.same) (RepA.dp w r q)
  | _, _, .scr h, _ => .lst (w.same.seq h) (dpAll_ints _)
theorem RepA.dp {K : PySem.W.Frag} {W : Wd} {H : Hp} (w : WOk W H) : ∀ {vs : List V} {ds : List D}, RepA K W vs ds → D.dataA ds = true → DpAll K H vs (D.pyA ds)
  | _, _, .nil, _ => .nil
  | _, _, .cons r t, q => by
    simp only [D.dataA, Bool.and_eq_true] at q
    exact .cons (Rep.dp w r q.1) (RepA.dp w t q.2)
end
/-- what may be compared -/
def D.cmp (d : D) : Bool := d.data && SeqAt.shaped d.py
def D.eqv (x y : D) : Bool := PyData.eqv x.py y.py

section
variable {X : Cx} {C : VC}
abbrev PostN (C : VC) (W : Wd) (H : Hp) (R : List D → Prop) (Q : VK) : Prop := ∀ ds a xs W' H', Step W H W' H' → WOk W' H' → H' a = some (.lst xs) → RepA C.K W' xs ds → xs.length ≤ sizeLine → W'.F a = none → ¬ W'.P a → H a = none → R ds → Q (.ref a) H'
theorem PostN.new {W W1 : Wd} {H H1 : Hp} {R : List D → Prop} {Q : VK} (k : PostN C W H R Q) (s : Step W H W1 H1) (w1 : WOk W1 H1) {p : Addr} (np : H1 p = none) {xs : List V} {ds : List D} (r : RepA C.K W1 xs ds) (z : xs.length ≤ sizeLine) (q : R ds) : Q (.ref p) (upd H1 p (.lst xs)) :=
  k ds p xs W1 _ (s.trans (Step.new w1 np)) (w1.new np) upd_same r z (w1.noF np) (w1.noP np) (s.none_of np) q
theorem Post.newL {W W1 : Wd} {H H1 : Hp} {R : D → Prop} {Q : VK} (k : Post C W H R Q) (s : Step W H W1 H1) (w1 : WOk W1 H1) {p : Addr} (np : H1 p = none) {xs : List V} {ds : List D} (r : RepA C.K W1 xs ds) (z : xs.length ≤ sizeLine) (q : R (.lst ds)) : Q (.ref p) (upd H1 p (.lst xs)) :=
  k _ _ (W1.add p (.lst xs)) _ (s.trans (Step.add w1 np)) (w1.add np) (.lst upd_same z (r.mono (Wd.le_add (w1.noF np)))) q
theorem Post.newT {W W1 : Wd} {H H1 : Hp} {R : D → Prop} {Q : VK} (k : Post C W H R Q) (s : Step W H W1 H1) (w1 : WOk W1 H1) {p : Addr} (np : H1 p = none) {xs : List V} {ds : List D} (r : RepA C.K W1 xs ds) (z : xs.length ≤ sizeLine) (q : R (.tup ds)) : Q (.ref p) (upd H1 p (.tup xs)) :=
  k _ _ (W1.add p (.tup xs)) _ (s.trans (Step.add w1 np)) (w1.add np) (.tup (.inl upd_same) z (r.mono (Wd.le_add (w1.noF np)))) q

/-! ### operators -/
def rAddU (K : PySem.W.Frag) : R2 := fun x y H Q => (∃ i j, x = .int i ∧ y = .int j ∧ Q (.int (i + j)) H) ∨ ((∃ i j, x = .str i ∧ y = .str j ∧ i.length + j.length ≤ sizeLine ∧ Q (.str (i ++ j)) H) ∨ (rCat x y H Q ∨ rCatA K x y H Q))
theorem op_addU : OpR X (binaryOp .Add) (rAddU X.K) := OpR.or op_add (OpR.or op_add_str (OpR.or op_cat op_catA))
def gAdd (x y : D) (R : D → Prop) : Prop := match x, y with
  | .int i, .int j => R (.int (i + j))
  | .str s, .str t => s.length + t.length ≤ sizeLine ∧ R (.str (s ++ t))
  | .lst a, .lst b => a.length + b.length ≤ sizeLine ∧ R (.lst (a ++ b))
  | .tup a, .tup b => a.length + b.length ≤ sizeLine ∧ R (.tup (a ++ b))
  | _, _ => False
theorem vr_add (hK : C.K = X.K) : VR2 C (rAddU X.K) gAdd := by
  intro W H x y dx dy R Q w rx ry g k
  cases rx with
  | int i =>
    cases ry with
    | int j => exact .inl ⟨i, j, rfl, rfl, k _ _ W H .refl w (.int _) g⟩
    | _ => exact (show False from g).elim
  | str s =>
    cases ry with
    | str t => exact .inr (.inl ⟨s, t, rfl, rfl, g.1, k _ _ W H .refl w (.str _) g.2⟩)
    | _ => exact (show False from g).elim
  | lst h z r =>
    cases ry with
    | lst h' z' r' =>
      have l1 := r.length
      have l2 := r'.length
      have hz : _ ≤ sizeLine := g.1
      refine .inr (.inr (.inl ⟨_, _, _, _, rfl, rfl, w.same _ _ h, w.same _ _ h', by rw [l1, l2]; exact hz, fun p np => Post.newL k .refl w np (r.append r') ?_ g.2⟩))
      rw [List.length_append, l1, l2]; exact hz
    | _ => exact (show False from g).elim
  | tup h z r =>
    cases ry with
    | tup h' z' r' =>
      have l1 := r.length
      have l2 := r'.length
      have hz : _ ≤ sizeLine := g.1
      refine .inr (.inr (.inr ⟨_, _, _, _, rfl, rfl, hK ▸ h.sq w.same, hK ▸ h'.sq w.same, by rw [l1, l2]; exact hz, fun e => ?_, fun e1 e2 => ?_, fun e1 e2 p np => Post.newT k .refl w np (r.append r') ?_ g.2⟩))
      · subst e
        cases r
        exact k _ _ W H .refl w (.tup h' z' r') g.2
      · subst e2
        cases r'
        have q := g.2
        rw [List.append_nil] at q
        exact k _ _ W H .refl w (.tup h z r) q
      · rw [List.length_append, l1, l2]; exact hz
    | _ => exact (show False from g).elim
  | _ => exact (show False from g).elim
theorem ve_add {a b : Expr} {pos : Pos} {wa wb : WE} (hK : C.K = X.K) (ha : VE X C a wa) (hb : VE X C b wb) : VE X C (.BinOp a .Add b pos) (e2 gAdd wa wb) := ve_op op_addU (vr_add hK) ha hb
/-- xs + ys, nobody else's -/
def nCat (a b : WE) : WA := fun ε R => a ε fun x => b ε fun y => match x, y with
  | .lst xs, .lst ys => xs.length + ys.length ≤ sizeLine ∧ R (xs ++ ys)
  | _, _ => False
theorem vn_cat {a b : Expr} {pos : Pos} {wa wb : WE} (ha : VE X C a wa) (hb : VE X C b wb) : VN X C (.BinOp a .Add b pos) (nCat wa wb) := PE.imp (pe_op op_cat ha hb) fun σ H Q q => by
  obtain ⟨W, ε, R, c, hw, k⟩ := q
  refine ⟨W, ε, _, c, hw, fun x v W' H' s w' rv q => ⟨W', ε, _, c.step s w', q, fun y u W2 H2 s2 w2 ru q2 => ?_⟩⟩
  have rv2 := rv.mono s2.le
  cases rv2 with
  | lst h z r =>
    cases ru with
    | lst h' z' r' =>
      have l1 := r.length
      have l2 := r'.length
      refine ⟨_, _, _, _, rfl, rfl, w2.same _ _ h, w2.same _ _ h', by rw [l1, l2]; exact q2.1, fun p np => PostN.new k (s.trans s2) w2 np (r.append r') ?_ q2.2⟩
      rw [List.length_append, l1, l2]; exact q2.1
    | _ => exact (show False from q2).elim
  | _ => exact (show False from by cases ru <;> exact q2).elim
def gI (P : Int → Int → Prop) (f : Int → Int → D) (x y : D) (R : D → Prop) : Prop := match x, y with
  | .int i, .int j => P i j ∧ R (f i j)
  | _, _ => False
def gI0 (f : Int → Int → D) (x y : D) (R : D → Prop) : Prop := match x, y with
  | .int i, .int j => R (f i j)
  | _, _ => False
theorem vr_I {P : Int → Int → Prop} {f : Int → Int → V} {fd : Int → Int → D} (hf : ∀ W i j, Rep C.K W (f i j) (fd i j)) : VR2 C (rI P f) (gI P fd) := by
  intro W H x y dx dy R Q w rx ry g k
  cases rx with
  | int i =>
    cases ry with
    | int j => exact ⟨i, j, rfl, rfl, g.1, k _ _ W H .refl w (hf W i j) g.2⟩
    | _ => exact (show False from g).elim
  | _ => exact (show False from by cases ry <;> exact g).elim
theorem vr_I0 {f : Int → Int → V} {fd : Int → Int → D} (hf : ∀ W i j, Rep C.K W (f i j) (fd i j)) : VR2 C (rI0 f) (gI0 fd) := by
  intro W H x y dx dy R Q w rx ry g k
  cases rx with
  | int i =>
    cases ry with
    | int j => exact ⟨i, j, rfl, rfl, k _ _ W H .refl w (hf W i j) g⟩
    | _ => exact (show False from g).elim
  | _ => exact (show False from by cases ry <;> exact g).elim
section
variable {a b : Expr} {pos : Pos} {wa wb : WE}
def gSub := gI0 fun i j => .int (i - j)
def gMod := gI (fun _ j => 0 < j) fun i j => .int (i % j)
def gFdiv := gI (fun _ j => 0 < j ∧ j < 1073741824) fun i j => .int (i / j)
def gPow := gI (fun i j => 0 ≤ j ∧ j ≤ 1000000 ∧ i.natAbs < 2 ^ 64) fun i j => .int (i ^ j.toNat)
theorem ve_sub (ha : VE X C a wa) (hb : VE X C b wb) : VE X C (.BinOp a .Sub b pos) (e2 gSub wa wb) := ve_op op_sub (vr_I0 fun _ _ _ => .int _) ha hb
theorem ve_mod (ha : VE X C a wa) (hb : VE X C b wb) : VE X C (.BinOp a .Mod b pos) (e2 gMod wa wb) := ve_op op_mod (vr_I fun _ _ _ => .int _) ha hb
theorem ve_fdiv (ha : VE X C a wa) (hb : VE X C b wb) : VE X C (.BinOp a .FloorDiv b pos) (e2 gFdiv wa wb) := ve_op op_fdiv (vr_I fun _ _ _ => .int _) ha hb
theorem ve_pow (ha : VE X C a wa) (hb : VE X C b wb) : VE X C (.BinOp a .Pow b pos) (e2 gPow wa wb) := ve_op op_pow (vr_I fun _ _ _ => .int _) ha hb
/-- *: ints, a list so many times -/
def rMulU : R2 := fun x y H Q => rI CMul (fun i j => .int (i * j)) x y H Q ∨ rRep x y H Q
theorem op_mulU : OpR X (binaryOp .Mult) rMulU := OpR.or op_mul op_rep
def gMul (x y : D) (R : D → Prop) : Prop := match x, y with
  | .int i, .int j => ((-18446744073709551616 < i ∧ i < 18446744073709551616) ∨ (-18446744073709551616 < j ∧ j < 18446744073709551616)) ∧ R (.int (i * j))
  | .lst a, .int j => (-1000000 ≤ j ∧ j ≤ 16777216 ∧ a.length * j.toNat ≤ sizeLine) ∧ R (.lst (List.replicate j.toNat a).flatten)
  | _, _ => False
theorem flatten_len {α : Type} (a : List α) : ∀ n : Nat, (List.replicate n a).flatten.length = n * a.length
  | 0 => by simp
  | n + 1 => by simp
theorem vr_mul : VR2 C rMulU gMul := by
  intro W H x y dx dy R Q w rx ry g k
  cases rx with
  | int i =>
    cases ry with
    | int j => exact .inl ⟨i, j, rfl, rfl, g.1, k _ _ W H .refl w (.int _) g.2⟩
    | _ => exact (show False from g).elim
  | lst h z r =>
    cases ry with
    | int j =>
      obtain ⟨⟨h1, h2, h3⟩, q⟩ := g
      have l1 := r.length
      have h4 : _ * j.toNat ≤ sizeLine := l1 ▸ h3
      refine .inr ⟨_, j, _, rfl, rfl, w.same _ _ h, by omega, by omega, h4, fun p np => Post.newL k .refl w np (r.flatten_replicate _) ?_ q⟩
      rw [flatten_len, Nat.mul_comm]; exact h4
    | _ => exact (show False from g).elim
  | _ => exact (show False from by cases ry <;> exact g).elim
theorem ve_mul (ha : VE X C a wa) (hb : VE X C b wb) : VE X C (.BinOp a .Mult b pos) (e2 gMul wa wb) := ve_op op_mulU vr_mul ha hb
def nRep (a b : WE) : WA := fun ε R => a ε fun x => b ε fun y => match x, y with
  | .lst xs, .int j => (-1000000 ≤ j ∧ j ≤ 16777216 ∧ xs.length * j.toNat ≤ sizeLine) ∧ R (List.replicate j.toNat xs).flatten
  | _, _ => False
theorem vn_rep (ha : VE X C a wa) (hb : VE X C b wb) : VN X C (.BinOp a .Mult b pos) (nRep wa wb) := PE.imp (pe_op op_rep ha hb) fun σ H Q q => by
  obtain ⟨W, ε, R, c, hw, k⟩ := q
  refine ⟨W, ε, _, c, hw, fun x v W' H' s w' rv q => ⟨W', ε, _, c.step s w', q, fun y u W2 H2 s2 w2 ru q2 => ?_⟩⟩
  have rv2 := rv.mono s2.le
  cases rv2 with
  | lst h z r =>
    cases ru with
    | int j =>
      obtain ⟨⟨h1, h2, h3⟩, q2⟩ := q2
      have l1 := r.length
      have h4 : _ * j.toNat ≤ sizeLine := l1 ▸ h3
      refine ⟨_, j, _, rfl, rfl, w2.same _ _ h, by omega, by omega, h4, fun p np => PostN.new k (s.trans s2) w2 np (r.flatten_replicate _) ?_ q2⟩
      rw [flatten_len, Nat.mul_comm]; exact h4
    | _ => exact (show False from q2).elim
  | _ => exact (show False from by cases ru <;> exact q2).elim
/-! comparisons -/
def gLt := gI0 fun i j => .bl (decide (i < j))
def gLe := gI0 fun i j => .bl (decide (i ≤ j))
def gGt := gI0 fun i j => .bl (decide (j < i))
def gGe := gI0 fun i j => .bl (decide (j ≤ i))
theorem vr_lt : VR2 C (rI0 fun i j => .bl (decide (i < j))) gLt := vr_I0 fun _ _ _ => .bl _
theorem vr_le : VR2 C (rI0 fun i j => .bl (decide (i ≤ j))) gLe := vr_I0 fun _ _ _ => .bl _
theorem vr_gt : VR2 C (rI0 fun i j => .bl (decide (j < i))) gGt := vr_I0 fun _ _ _ => .bl _
theorem vr_ge : VR2 C (rI0 fun i j => .bl (decide (j ≤ i))) gGe := vr_I0 fun _ _ _ => .bl _
def gEq (x y : D) (R : D → Prop) : Prop := match x, y with
  | .int i, .int j => R (.bl (decide (i = j)))
  | .str s, .str t => R (.bl (decide (s = t)))
  | .non, .non => R (.bl true)
  | _, _ => x.cmp = true ∧ y.cmp = true ∧ R (.bl (x.eqv y))
def gNe (x y : D) (R : D → Prop) : Prop := match x, y with
  | .int i, .int j => R (.bl (!decide (i = j)))
  | .str s, .str t => R (.bl (!decide (s = t)))
  | .non, .non => R (.bl false)
  | _, _ => x.cmp = true ∧ y.cmp = true ∧ R (.bl (!x.eqv y))
def rEqU (K : PySem.W.Frag) : R2 := fun x y H Q => rEq x y H Q ∨ rEqD K x y H Q
def rNeU (K : PySem.W.Frag) : R2 := fun x y H Q => rNe x y H Q ∨ rNeD K x y H Q
theorem op_eqU (hu : X.A.units + 64 < cLine) : OpR X (compareOp .Eq) (rEqU X.K) := OpR.or op_eq (op_eqD hu)
theorem op_neU (hu : X.A.units + 64 < cLine) : OpR X (compareOp .NotEq) (rNeU X.K) := OpR.or op_ne (op_neD hu)
theorem dec_int (i j : Int) : decide ((V.int i) = V.int j) = decide (i = j) := by
  by_cases h : i = j
  · subst h; simp
  · rw [decide_eq_false h, decide_eq_false fun q => h (V.int.inj q)]
theorem dec_str (i j : Str) : decide ((V.str i) = V.str j) = decide (i = j) := by
  by_cases h : i = j
  · subst h; simp
  · rw [decide_eq_false h, decide_eq_false fun q => h (V.str.inj q)]
theorem eq_gen (hK : C.K = X.K) {W : Wd} {H : Hp} {x y : V} {dx dy : D} {R : D → Prop} {Q : VK} (w : WOk W H) (rx : Rep C.K W x dx) (ry : Rep C.K W y dy) (g : dx.cmp = true ∧ dy.cmp = true ∧ R (.bl (dx.eqv dy))) (k : Post C W H R Q) : rEqU X.K x y H Q := by
  obtain ⟨h1, h2, q⟩ := g
  unfold D.cmp at h1 h2
  rw [Bool.and_eq_true] at h1 h2
  exact .inr ⟨_, _, hK ▸ rx.dp w h1.1, hK ▸ ry.dp w h2.1, h1.2, h2.2, k _ _ W H .refl w (.bl _) q⟩
theorem ne_gen (hK : C.K = X.K) {W : Wd} {H : Hp} {x y : V} {dx dy : D} {R : D → Prop} {Q : VK} (w : WOk W H) (rx : Rep C.K W x dx) (ry : Rep C.K W y dy) (g : dx.cmp = true ∧ dy.cmp = true ∧ R (.bl (!dx.eqv dy))) (k : Post C W H R Q) : rNeU X.K x y H Q := by
  obtain ⟨h1, h2, q⟩ := g
  unfold D.cmp at h1 h2
  rw [Bool.and_eq_true] at h1 h2
  exact .inr ⟨_, _, hK ▸ rx.dp w h1.1, hK ▸ ry.dp w h2.1, h1.2, h2.2, k _ _ W H .refl w (.bl _) q⟩
theorem vr_eq (hK : C.K = X.K) : VR2 C (rEqU X.K) gEq := by
  intro W H x y dx dy R Q w rx ry g k
  unfold gEq at g
  split at g
  · cases rx; cases ry
    exact .inl ⟨rfl, dec_int _ _ ▸ k _ _ W H .refl w (.bl _) g⟩
  · cases rx; cases ry
    exact .inl ⟨rfl, dec_str _ _ ▸ k _ _ W H .refl w (.bl _) g⟩
  · cases rx; cases ry
    exact .inl ⟨rfl, k _ _ W H .refl w (.bl _) g⟩
  · exact eq_gen hK w rx ry g k
theorem vr_ne (hK : C.K = X.K) : VR2 C (rNeU X.K) gNe := by
  intro W H x y dx dy R Q w rx ry g k
  unfold gNe at g
  split at g
  · cases rx; cases ry
    exact .inl ⟨rfl, dec_int _ _ ▸ k _ _ W H .refl w (.bl _) g⟩
  · cases rx; cases ry
    exact .inl ⟨rfl, dec_str _ _ ▸ k _ _ W H .refl w (.bl _) g⟩
  · cases rx; cases ry
    exact .inl ⟨rfl, k _ _ W H .refl w (.bl _) g⟩
  · exact ne_gen hK w rx ry g k
/-- x is None -/
def D.isNon : D → Bool
  | .non => true
  | _ => false
def D.known : D → Bool
  | .raw _ => false
  | _ => true
def gIsN (x y : D) (R : D → Prop) : Prop := match y with
  | .non => x.known = true ∧ R (.bl x.isNon)
  | _ => False
def gNotN (x y : D) (R : D → Prop) : Prop := match y with
  | .non => x.known = true ∧ R (.bl (!x.isNon))
  | _ => False
theorem isNon_dec {W : Wd} {x : V} {d : D} (r : Rep C.K W x d) (h : d.known = true) : decide (x = .non) = d.isNon := by
  cases r with
  | non => rfl
  | raw v => cases h
  | _ => rfl
theorem vr_isN : VR2 C (fun x y H Q => y = .non ∧ Q (.bl (decide (x = .non))) H) gIsN := by
  intro W H x y dx dy R Q w rx ry g k
  cases ry with
  | non => exact ⟨rfl, isNon_dec rx g.1 ▸ k _ _ W H .refl w (.bl _) g.2⟩
  | _ => exact (show False from g).elim
theorem vr_notN : VR2 C (fun x y H Q => y = .non ∧ Q (.bl (!decide (x = .non))) H) gNotN := by
  intro W H x y dx dy R Q w rx ry g k
  cases ry with
  | non => exact ⟨rfl, isNon_dec rx g.1 ▸ k _ _ W H .refl w (.bl _) g.2⟩
  | _ => exact (show False from g).elim
/-- in a list or a tuple of data -/
def D.items : D → Option (List D)
  | .lst ds => some ds
  | .tup ds => some ds
  | _ => none
def gIn (neg : Bool) (x y : D) (R : D → Prop) : Prop := match y with
  | .lst ds => x.cmp = true ∧ (D.lst ds).cmp = true ∧ R (.bl (if neg then !(ds.any fun z => z.eqv x) else ds.any fun z => z.eqv x))
  | .tup ds => x.scalar = true ∧ ds.all D.scalar = true ∧ R (.bl (if neg then !(ds.any fun z => z.eqv x) else ds.any fun z => z.eqv x))
  | _ => False
def rInU (K : PySem.W.Frag) : R2 := fun x y H Q => rInD K x y H Q ∨ rIn K false x y H Q
def rNotInU (K : PySem.W.Frag) : R2 := fun x y H Q => rNotInD K x y H Q ∨ rIn K true x y H Q
theorem op_inU (hu : X.A.units + 65 < cLine) : OpR X (compareOp .In) (rInU X.K) := OpR.or (op_inD hu) op_in_seq
theorem op_notInU (hu : X.A.units + 65 < cLine) : OpR X (compareOp .NotIn) (rNotInU X.K) := OpR.or (op_notInD hu) op_notIn_seq
theorem any_py (x : D) : ∀ ds : List D, ((D.pyA ds).any fun z => PyData.eqv z x.py) = ds.any fun z => z.eqv x
  | [] => rfl
  | d :: ds => by
    rw [D.pyA, List.any_cons, List.any_cons, any_py x ds]; rfl
theorem scalar_flat {W : Wd} {v : V} {d : D} (r : Rep C.K W v d) (h : d.scalar = true) : flatV v = true := by
  cases r with
  | non => rfl
  | bl _ => rfl
  | int _ => rfl
  | str _ => rfl
  | _ => cases h
theorem scalar_flatA {W : Wd} : ∀ {vs : List V} {ds : List D}, RepA C.K W vs ds → ds.all D.scalar = true → vs.all flatV = true
  | _, _, .nil, _ => rfl
  | _, _, .cons r t, h => by
    rw [List.all_cons, Bool.and_eq_true] at h ⊢
    exact ⟨scalar_flat r h.1, scalar_flatA t h.2⟩
theorem scalar_eqv {W : Wd} {v u : V} {d e : D} (r : Rep C.K W v d) (r' : Rep C.K W u e) (h : d.scalar = true) (h' : e.scalar = true) : eqV v u = d.eqv e := by
  cases r with
  | non => cases r' <;> first | rfl | cases h'
  | bl _ => cases r' <;> first | rfl | cases h'
  | int _ => cases r' <;> first | rfl | cases h'
  | str _ => cases r' <;> first | rfl | cases h'
  | _ => cases h
theorem scalar_any {W : Wd} {u : V} {e : D} (r' : Rep C.K W u e) (h' : e.scalar = true) : ∀ {vs : List V} {ds : List D}, RepA C.K W vs ds → ds.all D.scalar = true → inV u vs = ds.any fun z => z.eqv e
  | _, _, .nil, _ => rfl
  | _, _, .cons (v := v) (vs := vs) r t, h => by
    rw [List.all_cons, Bool.and_eq_true] at h
    show (eqV v u || inV u vs) = _
    rw [List.any_cons, scalar_eqv r r' h.1 h', scalar_any r' h' t h.2]
theorem vr_in (hK : C.K = X.K) : VR2 C (rInU X.K) (gIn false) := by
  intro W H x y dx dy R Q w rx ry g k
  cases ry with
  | lst h z r =>
    obtain ⟨h1, h2, q⟩ := g
    unfold D.cmp at h1 h2
    rw [Bool.and_eq_true] at h1 h2
    refine .inl ⟨_, _, hK ▸ rx.dp w h1.1, hK ▸ (Rep.lst h z r).dp w h2.1, h1.2, h2.2, ?_⟩
    rw [any_py]
    exact k _ _ W H .refl w (.bl _) q
  | tup h z r =>
    obtain ⟨h1, h2, q⟩ := g
    refine .inr ⟨_, _, rfl, .inr (hK ▸ h.sq w.same), scalar_flat rx h1, scalar_flatA r h2, ?_⟩
    rw [scalar_any rx h1 r h2]
    exact k _ _ W H .refl w (.bl _) q
  | _ => exact (show False from g).elim
theorem vr_notIn (hK : C.K = X.K) : VR2 C (rNotInU X.K) (gIn true) := by
  intro W H x y dx dy R Q w rx ry g k
  cases ry with
  | lst h z r =>
    obtain ⟨h1, h2, q⟩ := g
    unfold D.cmp at h1 h2
    rw [Bool.and_eq_true] at h1 h2
    refine .inl ⟨_, _, hK ▸ rx.dp w h1.1, hK ▸ (Rep.lst h z r).dp w h2.1, h1.2, h2.2, ?_⟩
    rw [any_py]
    exact k _ _ W H .refl w (.bl _) q
  | tup h z r =>
    obtain ⟨h1, h2, q⟩ := g
    refine .inr ⟨_, _, rfl, .inr (hK ▸ h.sq w.same), scalar_flat rx h1, scalar_flatA r h2, ?_⟩
    rw [scalar_any rx h1 r h2]
    exact k _ _ W H .refl w (.bl _) q
  | _ => exact (show False from g).elim
def gNeg (x : D) (R : D → Prop) : Prop := match x with
  | .int i => R (.int (-i))
  | _ => False
theorem ve_neg {a : Expr} {pos : Pos} {wa : WE} (ha : VE X C a wa) : VE X C (.UnaryOp .USub a pos) (e1 gNeg wa) := ve_un un_neg (fun W H x dx R Q w rx g k => by
  cases rx with
  | int i => exact ⟨i, rfl, k _ _ W H .refl w (.int _) g⟩
  | _ => exact (show False from g).elim) ha
/-! subscripts -/
theorem RepA.atI {K : PySem.W.Frag} {W : Wd} {vs : List V} {ds : List D} {i : Int} {d : D} (r : RepA K W vs ds) (h : L2.atI ds i = some d) : ∃ v, L2.atI vs i = some v ∧ Rep K W v d := by
  unfold L2.atI at h ⊢
  rw [r.length]
  cases e : ixN ds.length i with
  | none => rw [e] at h; cases h
  | some j =>
    rw [e] at h
    exact r.getD h
def gIx (x y : D) (R : D → Prop) : Prop := match x, y with
  | .lst ds, .int i => (match L2.atI ds i with | some d => R d | none => False)
  | .tup ds, .int i => (match L2.atI ds i with | some d => R d | none => False)
  | .scr ns, .int i => (match L2.atI ns i with | some n => R (.int n) | none => False)
  | .str s, .int i => s.length ≤ sizeLine ∧ (match L2.atI s.cps.toList i with | some c => R (.str ⟨#[c]⟩) | none => False)
  | _, _ => False
theorem atI_map {α β : Type} (f : α → β) (xs : List α) (i : Int) : L2.atI (xs.map f) i = (L2.atI xs i).map f := by
  unfold L2.atI
  rw [List.length_map]
  cases ixN xs.length i with
  | none => rfl
  | some j => show (xs.map f)[j]? = (xs[j]?).map f; rw [List.getElem?_map]
theorem vr_ix (hK : C.K = X.K) : VR2 C (rIx X.K) gIx := by
  intro W H x y dx dy R Q w rx ry g k
  cases rx with
  | lst h z r =>
    cases ry with
    | int i =>
      rename_i a xs ds
      have g' : (match L2.atI ds i with | some d => R d | none => False) := g
      cases e : L2.atI ds i with
      | none => rw [e] at g'; exact g'.elim
      | some d =>
        rw [e] at g'
        obtain ⟨v, h1, h2⟩ := r.atI e
        exact .inl ⟨_, _, _, _, rfl, rfl, .inl (.inl (w.same _ _ h)), h1, k _ _ W H .refl w h2 g'⟩
    | _ => exact (show False from g).elim
  | tup h z r =>
    cases ry with
    | int i =>
      rename_i a xs ds
      have g' : (match L2.atI ds i with | some d => R d | none => False) := g
      cases e : L2.atI ds i with
      | none => rw [e] at g'; exact g'.elim
      | some d =>
        rw [e] at g'
        obtain ⟨v, h1, h2⟩ := r.atI e
        exact .inr (.inl ⟨_, _, _, _, rfl, rfl, hK ▸ h.sq w.same, h1, k _ _ W H .refl w h2 g'⟩)
    | _ => exact (show False from g).elim
  | scr h =>
    cases ry with
    | int i =>
      rename_i a ns
      have g' : (match L2.atI ns i with | some n => R (.int n) | none => False) := g
      cases e : L2.atI ns i with
      | none => rw [e] at g'; exact g'.elim
      | some n =>
        rw [e] at g'
        exact .inl ⟨_, _, _, _, rfl, rfl, hK ▸ w.same.seq h, by rw [atI_map, e]; rfl, k _ _ W H .refl w (.int n) g'⟩
    | _ => exact (show False from g).elim
  | str s =>
    cases ry with
    | int i =>
      obtain ⟨hz, g'⟩ := (show s.length ≤ sizeLine ∧ (match L2.atI s.cps.toList i with | some c => R (.str ⟨#[c]⟩) | none => False) from g)
      cases e : L2.atI s.cps.toList i with
      | none => rw [e] at g'; exact g'.elim
      | some c =>
        rw [e] at g'
        exact .inr (.inr ⟨_, _, _, rfl, rfl, hz, e, k _ _ W H .refl w (.str _) g'⟩)
    | _ => exact (show False from g).elim
  | _ => exact (show False from by cases ry <;> exact g).elim
theorem ve_ix {a b : Expr} {pos : Pos} {wa wb : WE} (hK : C.K = X.K) (ha : VE X C a wa) (hb : VE X C b wb) (hs : PlainIx b) : VE X C (.Subscript a b pos) (e2 gIx wa wb) := PE.imp (pe_ix ix_seq ha hb hs) fun _ _ _ q => lift_t2 (vr_ix hK) q
/-- x[e], the own list at i -/
def eIxO (i : Nat) (w : WE) : WE := fun ε R => match ε[i]? with
  | some (.own ds) => w ε fun y => match y with
    | .int j => (match L2.atI ds j with | some d => R d | none => False)
    | _ => False
  | _ => False
theorem ve_ixO {e b : Expr} {pos : Pos} {i : Nat} {w : WE} (he : PE X e (tVar i)) (hb : VE X C b w) (hs : PlainIx b) : VE X C (.Subscript e b pos) (eIxO i w) := PE.imp (pe_ix ix_list he hb hs) fun σ H Q q => by
  obtain ⟨W, ε, R, c, hw, k⟩ := q
  unfold eIxO at hw
  split at hw
  · rename_i ds h0
    obtain ⟨a, xs, q1, q2, q3, q4, q5, q6, q7⟩ := c.e.own i ds h0
    refine ⟨_, q1, W, ε, _, c, hw, fun y v W' H' s w' r q => ?_⟩
    cases r with
    | int j =>
      have g' : (match L2.atI ds j with | some d => R d | none => False) := q
      cases e : L2.atI ds j with
      | none => rw [e] at g'; exact g'.elim
      | some d =>
        rw [e] at g'
        obtain ⟨v, h1, h2⟩ := (q3.mono s.le).atI e
        exact ⟨a, xs, j, v, rfl, rfl, .inl (.inl (s.keep _ _ q2 q6)), h1, k _ _ W' H' s w' h2 g'⟩
    | _ => exact (show False from q).elim
  · exact hw.elim
end
end
end VL


set_option Elab.async false
set_option linter.all false
set_option maxRecDepth 100000
set_option maxHeartbeats 4000000
namespace VL
open PySem PySem.Spec PyProof.Rows L2
section
variable {X : Cx} {C : VC}
/-! ### slices -/
abbrev WO := Ev → (Option Int → Prop) → Prop
def liftO (C : VC) (w : WO) : TO := fun σ H Q => ∃ W ε R, COk C W H ε σ ∧ w ε R ∧ ∀ o W' H', Step W H W' H' → WOk W' H' → R o → Q o H'
theorem PO.imp {e : Option Expr} {t t' : TO} (h : PO X e t) (i : ∀ σ H Q, t' σ H Q → t σ H Q) : PO X e t' := ⟨fun pins s σ H Q I q => h.run pins s σ H Q I (i _ _ _ q)⟩
abbrev VO (X : Cx) (C : VC) (e : Option Expr) (w : WO) : Prop := PO X e (liftO C w)
def oNo : WO := fun _ R => R none
def oSome (w : WE) : WO := fun ε R => w ε fun d => match d with
  | .int i => R (some i)
  | _ => False
theorem vo_none : VO X C none oNo := PO.imp po_none fun σ H Q q => by
  obtain ⟨W, ε, R, c, hw, k⟩ := q
  exact k none W H .refl c.w hw
theorem vo_some {e : Expr} {w : WE} (h : VE X C e w) : VO X C (some e) (oSome w) := PO.imp (po_some h) fun σ H Q q => by
  obtain ⟨W, ε, R, c, hw, k⟩ := q
  refine ⟨W, ε, _, c, hw, fun d v W' H' s w' r q => ?_⟩
  cases r with
  | int i => exact ⟨i, rfl, k _ W' H' s w' q⟩
  | _ => exact (show False from q).elim
def cutL {α : Type} (xs : List α) (lo hi : Option Int) : List α := (xs.drop (HT.sIx xs.length 0 lo)).take (HT.sIx xs.length xs.length hi - HT.sIx xs.length 0 lo)
theorem RepA.cut {K : PySem.W.Frag} {W : Wd} {vs : List V} {ds : List D} (r : RepA K W vs ds) (lo hi : Option Int) : RepA K W (cutV vs lo hi) (cutL ds lo hi) := by
  unfold cutV cutL
  rw [r.length]
  exact (r.drop _).take _
theorem cutL_whole {α : Type} {xs : List α} {lo hi : Option Int} (h : HT.sIx xs.length 0 lo = 0 ∧ HT.sIx xs.length xs.length hi = xs.length) : cutL xs lo hi = xs := by
  unfold cutL
  rw [h.1, h.2, List.drop_zero, Nat.sub_zero, List.take_length]
section
variable {e : Expr} {lo hi : Option Expr} {p2 pos : Pos} {w : WE} {wl wh : WO}
def nSl (w : WE) (lo hi : WO) : WA := fun ε R => w ε fun d => lo ε fun l => hi ε fun h => match d with
  | .lst ds => R (cutL ds l h)
  | _ => False
theorem vn_sl (hK : C.K = X.K) (he : VE X C e w) (hl : VO X C lo wl) (hh : VO X C hi wh) : VN X C (.Subscript e (.Slice lo hi none p2) pos) (nSl w wl wh) := PE.imp (pe_slice sl_list he hl hh) fun σ H Q q => by
  obtain ⟨W, ε, R, c, hw, k⟩ := q
  refine ⟨W, ε, _, c, hw, fun d v W1 H1 s1 w1 r q => ⟨W1, ε, _, c.step s1 w1, q, fun l W2 H2 s2 w2 q => ⟨W2, ε, _, (c.step s1 w1).step s2 w2, q, fun h W3 H3 s3 w3 q => ?_⟩⟩⟩
  have r3 := r.mono (s2.trans s3).le
  cases r3 with
  | lst hF z ra => exact ⟨_, _, rfl, .inl (.inl (w3.same _ _ hF)), fun p np => PostN.new k ((s1.trans s2).trans s3) w3 np (ra.cut l h) (Nat.le_trans (cutV_length _ _ _) z) q⟩
  | _ => exact (show False from q).elim
def nSlO (i : Nat) (lo hi : WO) : WA := fun ε R => match ε[i]? with
  | some (.own ds) => lo ε fun l => hi ε fun h => R (cutL ds l h)
  | _ => False
theorem vn_slO {i : Nat} (he : PE X e (tVar i)) (hl : VO X C lo wl) (hh : VO X C hi wh) : VN X C (.Subscript e (.Slice lo hi none p2) pos) (nSlO i wl wh) := PE.imp (pe_slice sl_list he hl hh) fun σ H Q q => by
  obtain ⟨W, ε, R, c, hw, k⟩ := q
  unfold nSlO at hw
  split at hw
  · rename_i ds h0
    obtain ⟨a, xs, q1, q2, q3, q4, q5, q6, q7⟩ := c.e.own i ds h0
    refine ⟨_, q1, W, ε, _, c, hw, fun l W2 H2 s2 w2 q => ⟨W2, ε, _, c.step s2 w2, q, fun h W3 H3 s3 w3 q => ?_⟩⟩
    have s := s2.trans s3
    exact ⟨_, _, rfl, .inl (.inl (s.keep _ _ q2 q6)), fun p np => PostN.new k s w3 np ((q3.mono s.le).cut l h) (Nat.le_trans (cutV_length _ _ _) q4) q⟩
  · exact hw.elim
/-- of a list, a tuple, a text -/
def eSl (w : WE) (lo hi : WO) : WE := fun ε R => w ε fun d => lo ε fun l => hi ε fun h => match d with
  | .lst ds => R (.lst (cutL ds l h))
  | .tup ds => R (.tup (cutL ds l h))
  | .str s => s.length ≤ sizeLine ∧ R (.str (cutS s l h))
  | _ => False
theorem ve_sl (hK : C.K = X.K) (he : VE X C e w) (hl : VO X C lo wl) (hh : VO X C hi wh) : VE X C (.Subscript e (.Slice lo hi none p2) pos) (eSl w wl wh) := PE.imp (pe_slice (SlR.or sl_list (SlR.or sl_tupA sl_str)) he hl hh) fun σ H Q q => by
  obtain ⟨W, ε, R, c, hw, k⟩ := q
  refine ⟨W, ε, _, c, hw, fun d v W1 H1 s1 w1 r q => ⟨W1, ε, _, c.step s1 w1, q, fun l W2 H2 s2 w2 q => ⟨W2, ε, _, (c.step s1 w1).step s2 w2, q, fun h W3 H3 s3 w3 q => ?_⟩⟩⟩
  have r3 := r.mono (s2.trans s3).le
  have s := (s1.trans s2).trans s3
  cases r3 with
  | lst hF z ra => exact .inl ⟨_, _, rfl, .inl (.inl (w3.same _ _ hF)), fun p np => Post.newL k s w3 np (ra.cut l h) (Nat.le_trans (cutV_length _ _ _) z) q⟩
  | tup hF z ra =>
    refine .inr (.inl ⟨_, _, rfl, hK ▸ hF.sq w3.same, fun e => ?_, fun _ p np => Post.newT k s w3 np (ra.cut l h) (Nat.le_trans (cutV_length _ _ _) z) q⟩)
    rw [ra.length] at e
    have q' : R (.tup (cutL _ l h)) := q
    rw [cutL_whole e] at q'
    exact k _ _ W3 H3 s w3 (.tup hF z ra) q'
  | str x => exact .inr (.inr ⟨_, rfl, q.1, k _ _ W3 H3 s w3 (.str _) q.2⟩)
  | _ => exact (show False from q).elim
/-- xs[::-1] -/
def nRev (w : WE) : WA := fun ε R => w ε fun d => match d with
  | .lst ds => R ds.reverse
  | _ => False
theorem vn_rev {k : Nat} {p1 p3 p4 : Pos} (hK : C.K = X.K) (he : VE X C e w) : VN X C (.Subscript e (.Slice none none (some (.UnaryOp .USub (.Constant (.int 1) k p1) p3)) p4) pos) (nRev w) := PE.imp (pe_revL he) fun σ H Q q => by
  obtain ⟨W, ε, R, c, hw, k⟩ := q
  refine ⟨W, ε, _, c, hw, fun d v W1 H1 s1 w1 r q => ?_⟩
  cases r with
  | lst hF z ra => exact ⟨_, _, rfl, .inl (.inl (w1.same _ _ hF)), fun p np => PostN.new k s1 w1 np ra.reverse (by rw [List.length_reverse]; exact z) q⟩
  | _ => exact (show False from q).elim
end

/-! ### built-in functions -/
def VRN (C : VC) (r : List V → Hp → VK → Prop) (g : List D → (List D → Prop) → Prop) : Prop := ∀ W H xs ds R Q, WOk W H → RepA C.K W xs ds → g ds R → PostN C W H R Q → r xs H Q
def nA (g : List D → (List D → Prop) → Prop) (a : WA) : WA := fun ε R => a ε fun xs => g xs R
theorem ve_callB {e : Expr} {w : WA} {r : List V → Hp → VK → Prop} {g : List D → (D → Prop) → Prop} (h : PE X e (tCB r (liftA C w))) (hr : VRA C r g) : VE X C e (eA g w) := PE.imp h fun σ H Q q => by
  obtain ⟨W, ε, R, c, hw, k⟩ := q
  exact ⟨W, ε, _, c, hw, fun ds vs W' H' s w' rv q => hr W' H' vs ds R Q w' rv q (Post.after k s)⟩
theorem vn_callB {e : Expr} {w : WA} {r : List V → Hp → VK → Prop} {g : List D → (List D → Prop) → Prop} (h : PE X e (tCB r (liftA C w))) (hr : VRN C r g) : VN X C e (nA g w) := PE.imp h fun σ H Q q => by
  obtain ⟨W, ε, R, c, hw, k⟩ := q
  refine ⟨W, ε, _, c, hw, fun ds vs W' H' s w' rv q => hr W' H' vs ds R Q w' rv q fun ds a xs W2 H2 s2 => ?_⟩
  exact fun w2 h1 h2 h3 h4 h5 h6 => k ds a xs W2 H2 (s.trans s2) w2 h1 h2 h3 h4 h5 (s.none_of h6)
theorem vra_of {r : List V → Hp → VK → Prop} {g : List D → (List D → Prop) → Prop} (h : VRN C r g) : VRA C r (fun ds R => g ds fun es => R (.lst es)) := fun W H xs ds R Q w ra q k =>
  h W H xs ds _ Q w ra q fun es a ys W' H' s w' h1 h2 h3 h4 h5 h6 q => k (.lst es) _ (W'.add a (.lst ys)) H' (frz_step s h1 h4 h6) (w'.freeze h1 h4 h5) (.lst upd_same h3 (h2.mono (Wd.le_add h4))) q
theorem repA1 {K : PySem.W.Frag} {W : Wd} {xs : List V} {d : D} (r : RepA K W xs [d]) : ∃ x, xs = [x] ∧ Rep K W x d := by
  cases r with
  | cons r1 r => cases r; exact ⟨_, rfl, r1⟩
theorem repA2 {K : PySem.W.Frag} {W : Wd} {xs : List V} {d e : D} (r : RepA K W xs [d, e]) : ∃ x y, xs = [x, y] ∧ Rep K W x d ∧ Rep K W y e := by
  cases r with
  | cons r1 r =>
    obtain ⟨y, rfl, r2⟩ := repA1 r
    exact ⟨_, y, rfl, r1, r2⟩
def gLen (xs : List D) (R : D → Prop) : Prop := match xs with
  | [.lst ds] => R (.int ds.length)
  | [.tup ds] => R (.int ds.length)
  | [.scr ns] => R (.int ns.length)
  | [.str s] => s.length ≤ sizeLine ∧ R (.int s.length)
  | _ => False
theorem vra_len (hK : C.K = X.K) : VRA C (fun xs H Q => ∃ x n, xs = [x] ∧ LenV X.K x H n ∧ Q (.int n) H) gLen := by
  intro W H xs ds R Q w ra q k
  unfold gLen at q
  split at q
  · obtain ⟨x, rfl, r⟩ := repA1 ra
    cases r with
    | lst h z r => exact ⟨_, _, rfl, .inl ⟨_, .inl (.inl (w.same _ _ h)), rfl⟩, by rw [r.length]; exact k _ _ W H .refl w (.int _) q⟩
  · obtain ⟨x, rfl, r⟩ := repA1 ra
    cases r with
    | tup h z r => exact ⟨_, _, rfl, .inr ⟨_, hK ▸ h.sq w.same, rfl⟩, by rw [r.length]; exact k _ _ W H .refl w (.int _) q⟩
  · obtain ⟨x, rfl, r⟩ := repA1 ra
    cases r with
    | scr h => exact ⟨_, _, rfl, .inl ⟨_, hK ▸ w.same.seq h, rfl⟩, by rw [List.length_map]; exact k _ _ W H .refl w (.int _) q⟩
  · obtain ⟨x, rfl, r⟩ := repA1 ra
    cases r with
    | str h => exact ⟨_, _, rfl, ⟨q.1, rfl⟩, k _ _ W H .refl w (.int _) q.2⟩
  · exact q.elim
def asInts : List D → Option (List Int)
  | [] => some []
  | .int i :: ds => (asInts ds).map (i :: ·)
  | _ :: _ => none
theorem asInts_eq : ∀ {ds : List D} {ns : List Int}, asInts ds = some ns → ds = ns.map D.int
  | [], ns, h => by cases h; rfl
  | .int i :: ds, ns, h => by
    unfold asInts at h
    cases e : asInts ds with
    | none => rw [e] at h; cases h
    | some ms => rw [e] at h; cases h; rw [asInts_eq e]; rfl
  | .non :: _, _, h => by cases h
  | .bl _ :: _, _, h => by cases h
  | .str _ :: _, _, h => by cases h
  | .lst _ :: _, _, h => by cases h
  | .tup _ :: _, _, h => by cases h
  | .dic _ _ :: _, _, h => by cases h
  | .scr _ :: _, _, h => by cases h
  | .pot :: _, _, h => by cases h
  | .raw _ :: _, _, h => by cases h
@[simp] theorem asInts_map {α : Type} (f : α → Int) : ∀ xs : List α, asInts (xs.map fun a => D.int (f a)) = some (xs.map f)
  | [] => rfl
  | x :: xs => by rw [List.map_cons, asInts, asInts_map f xs]; rfl
@[simp] theorem asInts_map' (xs : List Int) : asInts (xs.map D.int) = some xs := by
  have h := asInts_map (fun a : Int => a) xs
  rw [List.map_id'] at h
  exact h
def asBls : List D → Option (List Bool)
  | [] => some []
  | .bl i :: ds => (asBls ds).map (i :: ·)
  | _ :: _ => none
theorem asBls_eq : ∀ {ds : List D} {ns : List Bool}, asBls ds = some ns → ds = ns.map D.bl
  | [], ns, h => by cases h; rfl
  | .bl i :: ds, ns, h => by
    unfold asBls at h
    cases e : asBls ds with
    | none => rw [e] at h; cases h
    | some ms => rw [e] at h; cases h; rw [asBls_eq e]; rfl
  | .non :: _, _, h => by cases h
  | .int _ :: _, _, h => by cases h
  | .str _ :: _, _, h => by cases h
  | .lst _ :: _, _, h => by cases h
  | .tup _ :: _, _, h => by cases h
  | .dic _ _ :: _, _, h => by cases h
  | .scr _ :: _, _, h => by cases h
  | .pot :: _, _, h => by cases h
  | .raw _ :: _, _, h => by cases h
@[simp] theorem asBls_map {α : Type} (f : α → Bool) : ∀ xs : List α, asBls (xs.map fun a => D.bl (f a)) = some (xs.map f)
  | [] => rfl
  | x :: xs => by rw [List.map_cons, asBls, asBls_map f xs]; rfl
@[simp] theorem asBls_map' (xs : List Bool) : asBls (xs.map D.bl) = some xs := by
  have h := asBls_map (fun a : Bool => a) xs
  rw [List.map_id'] at h
  exact h
def gSum (xs : List D) (R : D → Prop) : Prop := match xs with
  | [.lst ds] => (match asInts ds with | some ns => R (.int ns.sum) | none => False)
  | _ => False
def gAll (xs : List D) (R : D → Prop) : Prop := match xs with
  | [.lst ds] => (match asBls ds with | some bs => R (.bl (bs.all id)) | none => False)
  | _ => False
def gAny (xs : List D) (R : D → Prop) : Prop := match xs with
  | [.lst ds] => (match asBls ds with | some bs => R (.bl (bs.any id)) | none => False)
  | _ => False
theorem vra_sum : VRA C (rSum X.K) gSum := by
  intro W H xs ds R Q w ra q k
  unfold gSum at q
  split at q
  · rename_i es
    obtain ⟨x, rfl, r⟩ := repA1 ra
    cases e : asInts es with
    | none => rw [e] at q; exact q.elim
    | some ns =>
      rw [e] at q
      cases r with
      | lst h z r =>
        rw [asInts_eq e] at r
        have e2 := r.ints
        subst e2
        exact ⟨_, ns, rfl, .inl (.inl (w.same _ _ h)), k _ _ W H .refl w (.int _) q⟩
  · exact q.elim
theorem vra_all : VRA C (rAll X.K) gAll := by
  intro W H xs ds R Q w ra q k
  unfold gAll at q
  split at q
  · rename_i es
    obtain ⟨x, rfl, r⟩ := repA1 ra
    cases e : asBls es with
    | none => rw [e] at q; exact q.elim
    | some ns =>
      rw [e] at q
      cases r with
      | lst h z r =>
        rw [asBls_eq e] at r
        have e2 := r.bools
        subst e2
        exact ⟨_, ns, rfl, .inl (.inl (w.same _ _ h)), k _ _ W H .refl w (.bl _) q⟩
  · exact q.elim
theorem vra_any : VRA C (rAny X.K) gAny := by
  intro W H xs ds R Q w ra q k
  unfold gAny at q
  split at q
  · rename_i es
    obtain ⟨x, rfl, r⟩ := repA1 ra
    cases e : asBls es with
    | none => rw [e] at q; exact q.elim
    | some ns =>
      rw [e] at q
      cases r with
      | lst h z r =>
        rw [asBls_eq e] at r
        have e2 := r.bools
        subst e2
        exact ⟨_, ns, rfl, .inl (.inl (w.same _ _ h)), k _ _ W H .refl w (.bl _) q⟩
  · exact q.elim
def gAbs (xs : List D) (R : D → Prop) : Prop := match xs with
  | [.int i] => R (.int (if i < 0 then -i else i))
  | _ => False
def gMax2 (xs : List D) (R : D → Prop) : Prop := match xs with
  | [.int i, .int j] => R (.int (if j > i then j else i))
  | _ => False
def gMin2 (xs : List D) (R : D → Prop) : Prop := match xs with
  | [.int i, .int j] => R (.int (if j < i then j else i))
  | _ => False
def gInt (xs : List D) (R : D → Prop) : Prop := match xs with
  | [.int i] => R (.int i)
  | [.bl k] => R (.int (if k then 1 else 0))
  | _ => False
def gStrI (xs : List D) (R : D → Prop) : Prop := match xs with
  | [.int i] => i.natAbs.log2 < 1920 ∧ R (.str (toString i))
  | _ => False
theorem vra_abs : VRA C (fun xs H Q => ∃ i, xs = [.int i] ∧ Q (.int (if i < 0 then -i else i)) H) gAbs := by
  intro W H xs ds R Q w ra q k
  unfold gAbs at q
  split at q
  · obtain ⟨x, rfl, r⟩ := repA1 ra
    cases r with
    | int i => exact ⟨_, rfl, k _ _ W H .refl w (.int _) q⟩
  · exact q.elim
theorem vra_max2 : VRA C (fun xs H Q => ∃ i j, xs = [.int i, .int j] ∧ Q (.int (if j > i then j else i)) H) gMax2 := by
  intro W H xs ds R Q w ra q k
  unfold gMax2 at q
  split at q
  · obtain ⟨x, y, rfl, r, r2⟩ := repA2 ra
    cases r with
    | int i => cases r2 with
      | int j => exact ⟨_, _, rfl, k _ _ W H .refl w (.int _) q⟩
  · exact q.elim
theorem vra_min2 : VRA C (fun xs H Q => ∃ i j, xs = [.int i, .int j] ∧ Q (.int (if j < i then j else i)) H) gMin2 := by
  intro W H xs ds R Q w ra q k
  unfold gMin2 at q
  split at q
  · obtain ⟨x, y, rfl, r, r2⟩ := repA2 ra
    cases r with
    | int i => cases r2 with
      | int j => exact ⟨_, _, rfl, k _ _ W H .refl w (.int _) q⟩
  · exact q.elim
theorem vra_int : VRA C (fun xs H Q => (∃ i, xs = [.int i] ∧ Q (.int i) H) ∨ ∃ k, xs = [.bl k] ∧ Q (.int (if k then 1 else 0)) H) gInt := by
  intro W H xs ds R Q w ra q k
  unfold gInt at q
  split at q
  · obtain ⟨x, rfl, r⟩ := repA1 ra
    cases r with
    | int i => exact .inl ⟨_, rfl, k _ _ W H .refl w (.int _) q⟩
  · obtain ⟨x, rfl, r⟩ := repA1 ra
    cases r with
    | bl i => exact .inr ⟨_, rfl, k _ _ W H .refl w (.int _) q⟩
  · exact q.elim
theorem vra_strI : VRA C (fun xs H Q => ∃ i, xs = [.int i] ∧ i.natAbs.log2 < 1920 ∧ Q (.str (toString i)) H) gStrI := by
  intro W H xs ds R Q w ra q k
  unfold gStrI at q
  split at q
  · obtain ⟨x, rfl, r⟩ := repA1 ra
    cases r with
    | int i => exact ⟨_, rfl, q.1, k _ _ W H .refl w (.str _) q.2⟩
  · exact q.elim
/-- list(x) of a list, a tuple -/
def nList (xs : List D) (R : List D → Prop) : Prop := match xs with
  | [.lst ds] => R ds
  | [.tup ds] => R ds
  | _ => False
theorem vrn_list (hK : C.K = X.K) : VRN C (fun xs H Q => ∃ p ys, xs = [.ref p] ∧ (SqL X.K H p ys ∨ SqT X.K H p ys) ∧ ∀ l, H l = none → Q (.ref l) (upd H l (.lst ys))) nList := by
  intro W H xs ds R Q w ra q k
  unfold nList at q
  split at q
  · obtain ⟨x, rfl, r⟩ := repA1 ra
    cases r with
    | lst h z r => exact ⟨_, _, rfl, .inl (.inl (.inl (w.same _ _ h))), fun p np => PostN.new k .refl w np r z q⟩
  · obtain ⟨x, rfl, r⟩ := repA1 ra
    cases r with
    | tup h z r => exact ⟨_, _, rfl, .inr (hK ▸ h.sq w.same), fun p np => PostN.new k .refl w np r z q⟩
  · exact q.elim
/-- tuple(x) -/
def gTuple (xs : List D) (R : D → Prop) : Prop := match xs with
  | [.lst ds] => R (.tup ds)
  | [.tup ds] => R (.tup ds)
  | _ => False
theorem vra_tuple (hK : C.K = X.K) : VRA C (fun xs H Q => ∃ p ys, xs = [.ref p] ∧ ((SqL X.K H p ys ∧ ∀ l, H l = none → Q (.ref l) (upd H l (.tup ys))) ∨ (SqT X.K H p ys ∧ Q (.ref p) H))) gTuple := by
  intro W H xs ds R Q w ra q k
  unfold gTuple at q
  split at q
  · obtain ⟨x, rfl, r⟩ := repA1 ra
    cases r with
    | lst h z r => exact ⟨_, _, rfl, .inl ⟨.inl (.inl (w.same _ _ h)), fun p np => Post.newT k .refl w np r z q⟩⟩
  · obtain ⟨x, rfl, r⟩ := repA1 ra
    cases r with
    | tup h z r => exact ⟨_, _, rfl, .inr ⟨hK ▸ h.sq w.same, k _ _ W H .refl w (.tup h z r) q⟩⟩
  · exact q.elim
/-! isinstance -/
def D.ty : D → Option String
  | .non => some "NoneType"
  | .bl _ => some "bool"
  | .int _ => some "int"
  | .str _ => some "str"
  | .lst _ => some "list"
  | .tup _ => some "tuple"
  | .dic _ _ => some "dict"
  | _ => none
def isiB (t c : String) : Bool := t == c || (t == "bool" && c == "int")
def okC (c : String) : Bool := ["int", "bool", "str", "list", "tuple", "dict"].contains c
theorem kit_isi {K : PySem.W.Frag} {d : D} {t c : String} (h : d.ty = some t) (hc : okC c = true) : PySem.W.kitOne K (.type t) (.type c) = some (isiB t c) := by
  have hc' : c = "int" ∨ c = "bool" ∨ c = "str" ∨ c = "list" ∨ c = "tuple" ∨ c = "dict" := by simpa [okC] using hc
  have ht : t = "NoneType" ∨ t = "bool" ∨ t = "int" ∨ t = "str" ∨ t = "list" ∨ t = "tuple" ∨ t = "dict" := by
    cases d <;> simp only [D.ty, Option.some.injEq, reduceCtorEq] at h <;> subst h <;> simp
  refine kit_ty ?_
  rcases hc' with rfl | rfl | rfl | rfl | rfl | rfl <;> rcases ht with rfl | rfl | rfl | rfl | rfl | rfl | rfl <;> decide +kernel
theorem Rep.ty {W : Wd} {H : Hp} {v : V} {d : D} {t : String} (hK : C.K = X.K) (w : WOk W H) (r : Rep C.K W v d) (h : d.ty = some t) : TyX X.K H v (.type t) := by
  cases r with
  | non => cases h; exact .base .non
  | bl b => cases h; exact .base (.bl b)
  | int i => cases h; exact .base (.int i)
  | str s => cases h; exact .base (.str s)
  | lst hF z r => cases h; exact .base (.lst (w.same _ _ hF))
  | tup hF z r =>
    cases h
    rcases hF with hF | ⟨o, its, n, h1, h2, _⟩
    · exact .base (.tup (w.same _ _ hF))
    · exact .kTuple (hK ▸ h1) h2
  | dic hF z r => cases h; exact .base (.dK (w.same _ _ hF))
  | _ => cases h
def asTys : List D → Option (List String)
  | [] => some []
  | .raw (.ty n) :: ds => (asTys ds).map (n :: ·)
  | _ :: _ => none
def gIsi (xs : List D) (R : D → Prop) : Prop := match xs with
  | [d, .raw (.ty c)] => (match d.ty with | some t => okC c = true ∧ R (.bl (isiB t c)) | none => False)
  | [d, .tup cs] => (match d.ty, asTys cs with | some t, some ns => ns.all okC = true ∧ R (.bl (ns.any fun c => isiB t c)) | _, _ => False)
  | _ => False
def rIsiU (K : PySem.W.Frag) : List V → Hp → VK → Prop := fun xs H Q => rIsi K xs H Q ∨ rIsiT K xs H Q
theorem CallR.or {f : Value} {r r' : List V → Hp → VK → Prop} (h : CallR X f r) (h' : CallR X f r') : CallR X f (fun xs H Q => r xs H Q ∨ r' xs H Q) := fun pins s σ H xs us Q I rv q => q.elim (h pins s σ H xs us Q I rv) (h' pins s σ H xs us Q I rv)
theorem call_isiU : CallR X (.builtin "isinstance") (rIsiU X.K) := CallR.or call_isi call_isiT
theorem asTys_rep {W : Wd} : ∀ {vs : List V} {ds : List D} {ns : List String}, RepA C.K W vs ds → asTys ds = some ns → vs = ns.map V.ty
  | _, _, _, .nil, h => by cases h; rfl
  | _, .raw (.ty n) :: ds, ns, .cons r t, h => by
    unfold asTys at h
    cases e : asTys ds with
    | none => rw [e] at h; cases h
    | some ms =>
      rw [e] at h; cases h
      cases r
      rw [asTys_rep t e]; rfl
  | _, .raw .non :: _, _, .cons _ _, h => by cases h
  | _, .raw (.bl _) :: _, _, .cons _ _, h => by cases h
  | _, .raw (.int _) :: _, _, .cons _ _, h => by cases h
  | _, .raw (.str _) :: _, _, .cons _ _, h => by cases h
  | _, .raw (.byt _) :: _, _, .cons _ _, h => by cases h
  | _, .raw (.flt _) :: _, _, .cons _ _, h => by cases h
  | _, .raw (.ref _) :: _, _, .cons _ _, h => by cases h
  | _, .non :: _, _, .cons _ _, h => by cases h
  | _, .bl _ :: _, _, .cons _ _, h => by cases h
  | _, .int _ :: _, _, .cons _ _, h => by cases h
  | _, .str _ :: _, _, .cons _ _, h => by cases h
  | _, .lst _ :: _, _, .cons _ _, h => by cases h
  | _, .tup _ :: _, _, .cons _ _, h => by cases h
  | _, .dic _ _ :: _, _, .cons _ _, h => by cases h
  | _, .scr _ :: _, _, .cons _ _, h => by cases h
  | _, .pot :: _, _, .cons _ _, h => by cases h
theorem clsV_tys : ∀ ns : List String, Paired ClsV (ns.map V.ty) (ns.map Value.type)
  | [] => .nil
  | n :: ns => .cons (.ty n) (clsV_tys ns)
theorem kitAny_tys {K : PySem.W.Frag} {d : D} {t : String} (h : d.ty = some t) : ∀ {ns : List String}, ns.all okC = true → PySem.W.kitAny K (.type t) (ns.map Value.type) = some (ns.any fun c => isiB t c)
  | [], _ => rfl
  | n :: ns, q => by
    rw [List.all_cons, Bool.and_eq_true] at q
    rw [List.map_cons, List.any_cons]
    refine kitAny_cons (kit_isi h q.1) (fun e => ?_) (fun e => by rw [e]; rfl)
    rw [e, Bool.false_or]
    exact kitAny_tys h q.2
def rIsiV (K : PySem.W.Frag) : List V → Hp → VK → Prop := fun xs H Q => rIsiU K xs H Q ∨ rIsiK K xs H Q
theorem call_isiV : CallR X (.builtin "isinstance") (rIsiV X.K) := CallR.or call_isiU call_isiK
theorem vals_tys : ∀ {ns : List String} {us : List Value}, Vals (ns.map V.ty) us → us = ns.map Value.type
  | [], _, .nil => rfl
  | n :: ns, _, .cons r t => by
    rw [vals_tys t]
    have r' : _ = Value.type n := r
    rw [r']; rfl
theorem vra_isi (hK : C.K = X.K) : VRA C (rIsiV X.K) gIsi := by
  intro W H xs ds R Q w ra q k
  unfold gIsi at q
  split at q
  · obtain ⟨x, y, rfl, r, r2⟩ := repA2 ra
    cases r2
    rename_i d c
    cases e : d.ty with
    | none => rw [e] at q; exact q.elim
    | some t =>
      rw [e] at q
      exact .inl (.inl ⟨_, _, _, _, _, rfl, .ty c, r.ty hK w e, kit_isi e q.1, k _ _ W H .refl w (.bl _) q.2⟩)
  · obtain ⟨x, y, rfl, r, r2⟩ := repA2 ra
    rename_i d cs
    cases e : d.ty with
    | none => rw [e] at q; exact q.elim
    | some t =>
      rw [e] at q
      cases e2 : asTys cs with
      | none => rw [e2] at q; exact q.elim
      | some ns =>
        rw [e2] at q
        cases r2 with
        | tup hF z ra2 =>
          have e3 := asTys_rep ra2 e2
          subst e3
          rcases hF with hF | ⟨o, its, n, h1, h2, h3, _, h4⟩
          · exact .inl (.inr ⟨_, _, _, _, _, _, rfl, w.same _ _ hF, clsV_tys ns, r.ty hK w e, kitAny_tys e q.1, k _ _ W H .refl w (.bl _) q.2⟩)
          · obtain ⟨oc, od, dt, sl⟩ := o
            simp only at h2 h3
            subst h2 h3
            have e4 := vals_tys h4
            refine .inr ⟨_, _, od, ns.map Value.type, n, sl, _, _, rfl, ?_, r.ty hK w e, kitAny_tys e q.1, k _ _ W H .refl w (.bl _) q.2⟩
            rw [← hK, h1, ← e4]
  · exact q.elim
end
end VL


set_option Elab.async false
set_option linter.all false
set_option maxRecDepth 100000
set_option maxHeartbeats 4000000
namespace VL
open PySem PySem.Spec PyProof.Rows L2

/-! ### what a def promises, by trees -/
abbrev XP := Str → List (Str × D) → Prop
abbrev VSp := List D → (D → Prop) → XP → Prop
def noX : XP := fun _ _ => False
def RetOk (K : PySem.W.Frag) (fr : Bool) (W : Wd) (H : Hp) (R : D → Prop) (Q : VK) : Prop := match fr with
  | false => ∀ d v W' H', Step W H W' H' → WOk W' H' → Rep K W' v d → R d → Q v H'
  | true => ∀ ds a xs W' H', Step W H W' H' → WOk W' H' → H' a = some (.lst xs) → RepA K W' xs ds → xs.length ≤ sizeLine → W'.F a = none → ¬ W'.P a → H a = none → R (.lst ds) → Q (.ref a) H'
/-- an exception's own fields -/
def FldOk (K : PySem.W.Frag) (W : Wd) (H : Hp) (d : Option Addr) (fs : List (Str × D)) : Prop := match d with
  | none => fs = []
  | some a => ∃ vs, H a = some (.xd ((fs.map (·.1)).zip vs)) ∧ RepA K W vs (fs.map (·.2))
def XOk (K : PySem.W.Frag) (mg : Str → Option Value) (W : Wd) (H : Hp) (E : XP) (EK : XK) : Prop := ∀ x fs c d W' H', Step W H W' H' → WOk W' H' → mg x = some (.ref c) → FldOk K W' H' d fs → E x fs → EK (.ref c) d H'
structure VFn (P : Program) (w : World) (K : PySem.W.Frag) (mg : Str → Option Value) (base : Heap) (k : Nat) (f : Addr) (fd : FuncData) (ps : List Str) (fr : Bool) (sp : VSp) : Prop where
  len : ∀ ds R E, sp ds R E → ds.length = ps.length
  run : ∀ (A : Around) (outer : List Env) (s : Shared) (H : Hp) (W : Wd) (args : Args) (us : List Value) (vs : List V) (ds : List D) (R : D → Prop) (E : XP) (Q : VK) (EK : XK), Room k A → A.guards = some [] → Env0 P w K mg base A outer s H → BindsTo s fd args (ps.zip us) →
    Vals vs us → WOk W H → RepA K W vs ds → sp ds R E → RetOk K fr W H R Q → XOk K mg W H E EK → codeAny (model P w) A (.call (.ref f) args) (CR (L2.CX P w) outer P w H s Q EK) s
theorem VFn.mono {P : Program} {w : World} {K : PySem.W.Frag} {mg : Str → Option Value} {base : Heap} {j k : Nat} {f : Addr} {fd : FuncData} {ps : List Str} {fr : Bool} {sp : VSp} (F : VFn P w K mg base j f fd ps fr sp) (h : j ≤ k) : VFn P w K mg base k f fd ps fr sp :=
  ⟨F.len, fun A outer s H W args us vs ds R E Q EK hr => F.run A outer s H W args us vs ds R E Q EK (hr.mono h)⟩

/-- what a body (or a comprehension's block) may lean on -/
structure BX (X : Cx) (C : VC) (k : Nat) (E : XP) : Prop where
  K : C.K = X.K
  calm : X.calm = true
  room : Room k X.A
  gd : X.A.guards = some []
  px : ∀ EK : XK, (∀ c d H', EK c d H' → ∃ x fs a W', Step C.W0 C.H0 W' H' ∧ WOk W' H' ∧ c = .ref a ∧ X.mg x = some (.ref a) ∧ FldOk C.K W' H' d fs ∧ E x fs) → Passes (L2.CX X.prog X.w) X EK
theorem BX.blk {X : Cx} {C : VC} {k : Nat} {E : XP} (B : BX X C k E) {s : Shared} {H : Hp} {scope : Scope} {ce : Env} {fp : List Addr} : BX (X.blk s H scope ce fp) C k noX :=
  ⟨B.K, B.calm, B.room, B.gd, fun EK h pins σ H' s' e s2 I c => by
    obtain ⟨a, Bh, H2, cls, d, _, _, _, _, _, _, _, z⟩ := c
    obtain ⟨_, _, _, _, _, _, _, _, _, q⟩ := h _ _ _ z
    exact q.elim⟩

/-! ### calls -/
/-- what such a callee's end gives its caller -/
theorem call_end {X : Cx} {C : VC} {k : Nat} {E : XP} {fr : Bool} {σ : St} {H : Hp} {s : Shared} {W : Wd} {ε : Ev} {pins : List (Addr × Obj)} {f : Addr} {fd : FuncData} {ps : List Str} {sp : VSp} {args : Args} {us : List Value} {vs : List V} {es : List D} {R : D → Prop} {Q : VK} {j : Nat}
    (B : BX X C k E) (hj : j ≤ k) (F : VFn X.prog X.w X.K X.mg X.base j f fd ps fr sp) (I : Inv X pins σ H s) (hb : BindsTo s fd args (ps.zip us)) (r : Vals vs us) (c : COk C W H ε σ) (ra : RepA C.K W vs es) (h : sp es R E) (hQ : RetOk C.K fr W H R Q) :
    codeAny (model X.prog X.w) X.A (.call (.ref f) args) (fun r s' => match r with | .ok (.ret v) => EP X pins σ Q v s' | .ok _ => False | .error e => X.xe e s') s := by
  have EKh : XOk X.K X.mg W H E (fun cl d H' => ∃ x fs a W', Step C.W0 C.H0 W' H' ∧ WOk W' H' ∧ cl = .ref a ∧ X.mg x = some (.ref a) ∧ FldOk C.K W' H' d fs ∧ E x fs) := fun x fs a d W' H' st w' hm fo ex =>
    ⟨x, fs, a, W', c.st.trans st, w', rfl, hm, B.K ▸ fo, ex⟩
  refine codeAny_mono (F.run X.A X.stack s H W args us vs es R E Q _ (B.room.mono hj) B.gd I.env0 hb r c.w (B.K ▸ ra) h (B.K ▸ hQ) EKh) fun res s' hr => ?_
  cases res with
  | error e => exact B.px _ (fun _ _ _ q => q) pins σ H s e s' I hr
  | ok fl =>
    cases fl with
    | ret u => exact I.after hr
    | next => exact hr.elim
    | brk => exact hr.elim
    | cont => exact hr.elim
section
variable {X : Cx} {C : VC} {k j : Nat} {E : XP} {f : Addr} {fd : FuncData} {ps ks : List Str} {fr : Bool} {sp : VSp}
/-- every parameter is given by place -/
def BindP (K : PySem.W.Frag) (fd : FuncData) (ps : List Str) : Prop := ∀ (s : Shared) (us : List Value), K.In s.heap → us.length = ps.length → BindsTo s fd ⟨us, []⟩ (ps.zip us)
theorem bindP_of {K : PySem.W.Frag} (h : ∀ us : List Value, us.length = ps.length → bindArgs fd ⟨us, []⟩ = pure (ps.zip us)) : BindP K fd ps := fun s us _ hl => .of_eq (h us hl)
def eCall (sp : VSp) (E : XP) (a : WA) : WE := fun ε R => a ε fun ds => sp ds R E
def nCall (sp : VSp) (E : XP) (a : WA) : WA := fun ε R => a ε fun ds => sp ds (fun d => ∃ es, d = .lst es ∧ R es) E
/-- f(e, ..) -/
theorem pe_callV {x : Str} {p pos : Pos} {e : Expr} {es : List Expr} {w : WA} (B : BX X C k E) (hj : j ≤ k) (F : VFn X.prog X.w X.K X.mg X.base j f fd ps fr sp) (hb : BindP X.K fd ps) (hg : Gl X x) (hm : X.mg x = some (.ref f)) (hk : PySem.W.keepIn X.K (.ref f) = true)
    (ha : VA X C (e :: es) w) (hdb : (x == ("__debug__" : Str)) = false := by decide) (he : starEach (e :: es) X.env = (false, eval e X.env) :: starEach es X.env := by rfl) (hpl : (backTo pos (starEach es X.env)).any (·.1) = false := by rfl) :
    PE X (.Call (.Name x p) (e :: es) [] pos) (fun σ H Q => ∃ W ε R, COk C W H ε σ ∧ eCall sp E w ε R ∧ ∀ W1 H1, Step W H W1 H1 → WOk W1 H1 → RetOk C.K fr W1 H1 R Q) := by
  refine ⟨fun pins s σ H Q I q => ?_⟩
  obtain ⟨W, ε, R, c, hw, kk⟩ := q
  refine wpAny_Call_Name_kw (ld_glob I hg hm ?_ hdb)
  refine PySem.W.callWith_K (h₀ := X.base) I.ok.mod.kin hk (thn (ha.run pos pins s σ H (fun vs H1 => ∃ W1 ds, Step W H W1 H1 ∧ WOk W1 H1 ∧ RepA C.K W1 vs ds ∧ sp ds R E) I ⟨W, ε, _, c, hw, fun ds vs W' H' st w' rv q => ⟨W', ds, st, w', rv, q⟩⟩) fun us s1 hq => ?_) he hpl
  obtain ⟨vs, H1, I1, rv, W1, ds, st, w1, ra, hs⟩ := hq
  refine ⟨I1.kIn, wpAny_call ?_⟩
  have hl : us.length = ps.length := by rw [← rv.length, ra.length]; exact F.len _ _ _ hs
  exact call_end B hj F I1 (hb s1 us I1.kIn hl) rv (c.step st w1) ra hs (kk W1 H1 st w1)
theorem ve_call {e : Expr} {w : WA} (h : PE X e (fun σ H Q => ∃ W ε R, COk C W H ε σ ∧ eCall sp E w ε R ∧ ∀ W1 H1, Step W H W1 H1 → WOk W1 H1 → RetOk C.K false W1 H1 R Q)) : VE X C e (eCall sp E w) := PE.imp h fun σ H Q q => by
  obtain ⟨W, ε, R, c, hw, k⟩ := q
  exact ⟨W, ε, R, c, hw, fun W1 H1 s w1 => Post.after k s⟩
theorem vn_call {e : Expr} {w : WA} (h : PE X e (fun σ H Q => ∃ W ε R, COk C W H ε σ ∧ eCall sp E w ε R ∧ ∀ W1 H1, Step W H W1 H1 → WOk W1 H1 → RetOk C.K true W1 H1 R Q)) : VN X C e (nCall sp E w) := PE.imp h fun σ H Q q => by
  obtain ⟨W, ε, R, c, hw, k⟩ := q
  refine ⟨W, ε, _, c, hw, fun W1 H1 s w1 ds a xs W2 H2 s2 w2 h1 h2 h3 h4 h5 h6 q => ?_⟩
  obtain ⟨es, e1, q⟩ := q
  cases e1
  exact k ds a xs W2 H2 (s.trans s2) w2 h1 h2 h3 h4 h5 (s.none_of h6) q
/-- f(), no arguments -/
theorem pe_callV0 {x : Str} {p pos : Pos} (B : BX X C k E) (hj : j ≤ k) (F : VFn X.prog X.w X.K X.mg X.base j f fd ps fr sp) (hb : BindP X.K fd ps) (hg : Gl X x) (hm : X.mg x = some (.ref f)) (hk : PySem.W.keepIn X.K (.ref f) = true) (hdb : (x == ("__debug__" : Str)) = false := by decide) :
    PE X (.Call (.Name x p) [] [] pos) (fun σ H Q => ∃ W ε R, COk C W H ε σ ∧ eCall sp E aNil ε R ∧ ∀ W1 H1, Step W H W1 H1 → WOk W1 H1 → RetOk C.K fr W1 H1 R Q) := by
  refine ⟨fun pins s σ H Q I q => ?_⟩
  obtain ⟨W, ε, R, c, hw, kk⟩ := q
  refine wpAny_Call_Name_kw (ld_glob I hg hm ?_ hdb)
  refine PySem.W.callWith_K0 I.kIn hk (wpAny_call ?_)
  exact call_end B hj F I (hb s [] I.kIn (by have := F.len _ _ _ hw; simpa using this)) .nil c .nil hw (kk W H .refl c.w)
/-! keywords -/
def permU (perm : List Nat) (us ws : List Value) : List Value := perm.map fun i => (us ++ ws).getD i .none
def permD (perm : List Nat) (us ws : List D) : List D := perm.map fun i => (us ++ ws).getD i .non
def permV (perm : List Nat) (us ws : List V) : List V := perm.map fun i => (us ++ ws).getD i .non
def BindK (K : PySem.W.Frag) (fd : FuncData) (ps ks : List Str) (n : Nat) (perm : List Nat) : Prop := ∀ (s : Shared) (us ws : List Value), K.In s.heap → us.length = n → ws.length = ks.length → BindsTo s fd ⟨us, ks.zip ws⟩ (ps.zip (permU perm us ws))
theorem bindK_of {K : PySem.W.Frag} {n : Nat} {perm : List Nat} (h : ∀ us ws : List Value, us.length = n → ws.length = ks.length → bindArgs fd ⟨us, ks.zip ws⟩ = pure (ps.zip (permU perm us ws))) : BindK K fd ps ks n perm := fun s us ws _ h1 h2 => .of_eq (h us ws h1 h2)
theorem getD_vals : ∀ {vs : List V} {us : List Value} (i : Nat), Vals vs us → RelV (vs.getD i .non) (us.getD i .none)
  | _, _, _, .nil => rfl
  | _, _, 0, .cons r _ => r
  | _, _, i + 1, .cons _ t => by
    rw [List.getD_cons_succ, List.getD_cons_succ]
    exact getD_vals i t
theorem getD_rep {K : PySem.W.Frag} {W : Wd} : ∀ {vs : List V} {ds : List D} (i : Nat), RepA K W vs ds → Rep K W (vs.getD i .non) (ds.getD i .non)
  | _, _, _, .nil => .non
  | _, _, 0, .cons r _ => r
  | _, _, i + 1, .cons _ t => by
    rw [List.getD_cons_succ, List.getD_cons_succ]
    exact getD_rep i t
theorem perm_vals {vs zs : List V} {us ws : List Value} (r : Vals vs us) (rz : Vals zs ws) : ∀ perm : List Nat, Vals (permV perm vs zs) (permU perm us ws)
  | [] => .nil
  | i :: perm => .cons (getD_vals i (r.append rz)) (perm_vals r rz perm)
theorem perm_rep {K : PySem.W.Frag} {W : Wd} {vs zs : List V} {ds es : List D} (r : RepA K W vs ds) (rz : RepA K W zs es) : ∀ perm : List Nat, RepA K W (permV perm vs zs) (permD perm ds es)
  | [] => .nil
  | i :: perm => .cons (getD_rep i (r.append rz)) (perm_rep r rz perm)
structure VK' (X : Cx) (C : VC) (kws : List Keyword) (w : WA) : Prop where
  pk : PK X kws (liftA C w)
theorem PK.imp {kws : List Keyword} {t t' : TA} (h : PK X kws t) (i : ∀ σ H Q, t' σ H Q → t σ H Q) : PK X kws t' := ⟨fun p pins s σ H Q I q => h.run p pins s σ H Q I (i _ _ _ q)⟩
theorem vk_nil : VK' X C [] aNil := ⟨PK.imp pk_nil fun σ H Q q => by
  obtain ⟨W, ε, R, c, hw, k⟩ := q
  exact k [] [] W H .refl c.w .nil hw⟩
theorem vk_cons {nm : Option Str} {e : Expr} {kpos : Pos} {kws : List Keyword} {a : WE} {t : WA} (ha : VE X C e a) (ht : VK' X C kws t) : VK' X C (⟨nm, e, kpos⟩ :: kws) (aCons a t) := ⟨PK.imp (pk_cons ha ht.pk) fun σ H Q q => by
  obtain ⟨W, ε, R, c, hw, k⟩ := q
  refine ⟨W, ε, _, c, hw, fun x v W' H' s w' rv q => ⟨W', ε, _, c.step s w', q, fun ds vs W2 H2 s2 w2 ru q2 => ?_⟩⟩
  exact k _ _ W2 H2 (s.trans s2) w2 (.cons (rv.mono s2.le) ru) q2⟩
def eCallK (sp : VSp) (E : XP) (n : Nat) (m : Nat) (perm : List Nat) (a b : WA) : WE := fun ε R => a ε fun ds => b ε fun es => ds.length = n ∧ es.length = m ∧ sp (permD perm ds es) R E
def nCallK (sp : VSp) (E : XP) (n : Nat) (m : Nat) (perm : List Nat) (a b : WA) : WA := fun ε R => a ε fun ds => b ε fun es => ds.length = n ∧ es.length = m ∧ sp (permD perm ds es) (fun d => ∃ es, d = .lst es ∧ R es) E
/-- f(k = e, ..) -/
theorem pe_callV0K {x : Str} {p pos : Pos} {kws : List Keyword} {w : WA} {perm : List Nat} (B : BX X C k E) (hj : j ≤ k) (F : VFn X.prog X.w X.K X.mg X.base j f fd ps fr sp) (hb : BindK X.K fd ps ks 0 perm) (hg : Gl X x) (hm : X.mg x = some (.ref f)) (hk : PySem.W.keepIn X.K (.ref f) = true)
    (ha : VK' X C kws w) (hall : (backToKw pos (keywordEach kws X.env)).all (·.1.isSome) = true := by rfl) (hks : (backToKw pos (keywordEach kws X.env)).filterMap (·.1) = ks := by rfl) (hdb : (x == ("__debug__" : Str)) = false := by decide)
    (hpl : ((backTo pos (starEach [] X.env)).any (·.1) || (backToKw pos (keywordEach kws X.env)).any (·.1.isNone)) = false := by rfl) :
    PE X (.Call (.Name x p) [] kws pos) (fun σ H Q => ∃ W ε R, COk C W H ε σ ∧ eCallK sp E 0 ks.length perm aNil w ε R ∧ ∀ W1 H1, Step W H W1 H1 → WOk W1 H1 → RetOk C.K fr W1 H1 R Q) := by
  refine ⟨fun pins s σ H Q I q => ?_⟩
  obtain ⟨W, ε, R, c, hw, kk⟩ := q
  refine wpAny_Call_Name_kw (ld_glob I hg hm ?_ hdb)
  refine PySem.W.callWith_KW0 (h₀ := X.base) I.ok.mod.kin hk hall (thn (ha.pk.run pos pins s σ H (fun vs H1 => ∃ W1 ds, Step W H W1 H1 ∧ WOk W1 H1 ∧ RepA C.K W1 vs ds ∧ ds.length = ks.length ∧ sp (permD perm [] ds) R E) I ⟨W, ε, _, c, hw, fun ds vs W' H' st w' rv q => ⟨W', ds, st, w', rv, q.2.1, q.2.2⟩⟩) fun us s1 hq => ?_) hpl
  obtain ⟨vs, H1, I1, rv, W1, ds, st, w1, ra, hl, hs⟩ := hq
  refine ⟨I1.kIn, wpAny_call ?_⟩
  rw [hks]
  have hl2 : us.length = ks.length := by rw [← rv.length, ra.length]; exact hl
  exact call_end B hj F I1 (hb s1 [] us I1.kIn rfl hl2) (perm_vals (.nil : Vals [] []) rv perm) (c.step st w1) (perm_rep .nil ra perm) hs (kk W1 H1 st w1)
/-- f(e, .., k = e, ..) -/
theorem pe_callVK {x : Str} {p pos : Pos} {e : Expr} {es : List Expr} {kws : List Keyword} {wa w : WA} {perm : List Nat} {n : Nat} (B : BX X C k E) (hj : j ≤ k) (F : VFn X.prog X.w X.K X.mg X.base j f fd ps fr sp) (hb : BindK X.K fd ps ks n perm) (hg : Gl X x) (hm : X.mg x = some (.ref f)) (hk : PySem.W.keepIn X.K (.ref f) = true)
    (ha : VA X C (e :: es) wa) (hkw : VK' X C kws w) (hall : (backToKw pos (keywordEach kws X.env)).all (·.1.isSome) = true := by rfl) (hks : (backToKw pos (keywordEach kws X.env)).filterMap (·.1) = ks := by rfl) (hdb : (x == ("__debug__" : Str)) = false := by decide)
    (he : starEach (e :: es) X.env = (false, eval e X.env) :: starEach es X.env := by rfl) (hpl : ((backTo pos (starEach (e :: es) X.env)).any (·.1) || (backToKw pos (keywordEach kws X.env)).any (·.1.isNone)) = false := by rfl) :
    PE X (.Call (.Name x p) (e :: es) kws pos) (fun σ H Q => ∃ W ε R, COk C W H ε σ ∧ eCallK sp E n ks.length perm wa w ε R ∧ ∀ W1 H1, Step W H W1 H1 → WOk W1 H1 → RetOk C.K fr W1 H1 R Q) := by
  refine ⟨fun pins s σ H Q I q => ?_⟩
  obtain ⟨W, ε, R, c, hw, kk⟩ := q
  refine wpAny_Call_Name_kw (ld_glob I hg hm ?_ hdb)
  refine PySem.W.callWith_KW (h₀ := X.base) I.ok.mod.kin hk hall (thn (ha.run pos pins s σ H (fun vs H1 => ∃ W1 ds, Step W H W1 H1 ∧ WOk W1 H1 ∧ RepA C.K W1 vs ds ∧ w ε fun es => ds.length = n ∧ es.length = ks.length ∧ sp (permD perm ds es) R E) I ⟨W, ε, _, c, hw, fun ds vs W' H' st w' rv q => ⟨W', ds, st, w', rv, q⟩⟩) fun us s1 hq => ?_) hpl he
  obtain ⟨vs, H1, I1, rv, W1, ds, st, w1, ra, hw2⟩ := hq
  have c1 := c.step st w1
  refine thn (hkw.pk.run pos pins s1 σ H1 (fun zs H2 => ∃ W2 es, Step W1 H1 W2 H2 ∧ WOk W2 H2 ∧ RepA C.K W2 zs es ∧ ds.length = n ∧ es.length = ks.length ∧ sp (permD perm ds es) R E) I1 ⟨W1, ε, _, c1, hw2, fun ds vs W' H' st w' rv q => ⟨W', ds, st, w', rv, q⟩⟩) fun ws s2 hq => ?_
  obtain ⟨zs, H2, I2, rz, W2, es2, st2, w2, rz2, hl1, hl2, hs⟩ := hq
  refine ⟨I2.kIn, wpAny_call ?_⟩
  rw [hks]
  have hu : us.length = n := by rw [← rv.length, ra.length]; exact hl1
  have hz : ws.length = ks.length := by rw [← rz.length, rz2.length]; exact hl2
  exact call_end B hj F I2 (hb s2 us ws I2.kIn hu hz) (perm_vals rv rz perm) (c1.step st2 w2) (perm_rep (ra.mono st2.le) rz2 perm) hs (kk W2 H2 (st.trans st2) w2)
theorem ve_callK {e : Expr} {n m : Nat} {perm : List Nat} {a w : WA} (h : PE X e (fun σ H Q => ∃ W ε R, COk C W H ε σ ∧ eCallK sp E n m perm a w ε R ∧ ∀ W1 H1, Step W H W1 H1 → WOk W1 H1 → RetOk C.K false W1 H1 R Q)) : VE X C e (eCallK sp E n m perm a w) := PE.imp h fun σ H Q q => by
  obtain ⟨W, ε, R, c, hw, k⟩ := q
  exact ⟨W, ε, R, c, hw, fun W1 H1 s w1 => Post.after k s⟩
theorem vn_callK {e : Expr} {n m : Nat} {perm : List Nat} {a w : WA} (h : PE X e (fun σ H Q => ∃ W ε R, COk C W H ε σ ∧ eCallK sp E n m perm a w ε R ∧ ∀ W1 H1, Step W H W1 H1 → WOk W1 H1 → RetOk C.K true W1 H1 R Q)) : VN X C e (nCallK sp E n m perm a w) := PE.imp h fun σ H Q q => by
  obtain ⟨W, ε, R, c, hw, k⟩ := q
  refine ⟨W, ε, _, c, hw, fun W1 H1 s w1 ds a xs W2 H2 s2 w2 h1 h2 h3 h4 h5 h6 q => ?_⟩
  obtain ⟨es, e1, q⟩ := q
  cases e1
  exact k ds a xs W2 H2 (s.trans s2) w2 h1 h2 h3 h4 h5 (s.none_of h6) q
end

/-! ### a def's body keeps its promise -/
def startE (N : List Str) (ds : List D) : Ev := ds.map S.val ++ List.replicate (N.length - ds.length) .un
theorem RepA.getMap {K : PySem.W.Frag} {W : Wd} {vs : List V} {ds : List D} {i : Nat} {x : S} {n m : Nat} (r : RepA K W vs ds) (h : (ds.map S.val ++ List.replicate n S.un)[i]? = some x) : x = .un ∨ ∃ d v, x = .val d ∧ (vs.map some ++ List.replicate m none)[i]? = some (some v) ∧ Rep K W v d := by
  by_cases hi : i < ds.length
  · rw [List.getElem?_append_left (by simpa using hi), List.getElem?_map] at h
    cases e : ds[i]? with
    | none => rw [e] at h; cases h
    | some d =>
      rw [e] at h
      cases h
      obtain ⟨v, h1, h2⟩ := r.getD e
      refine .inr ⟨d, v, rfl, ?_, h2⟩
      have hi2 : i < vs.length := by rw [r.length]; exact hi
      rw [List.getElem?_append_left (by simpa using hi2), List.getElem?_map, h1]; rfl
  · rw [List.getElem?_append_right (by simpa using hi), List.getElem?_replicate] at h
    split at h
    · cases h; exact .inl rfl
    · cases h
theorem cok_start {K : PySem.W.Frag} {W : Wd} {H : Hp} {N : List Str} {vs : List V} {ds : List D} (w : WOk W H) (r : RepA K W vs ds) : COk ⟨K, W, H⟩ W H (startE N ds) (start N vs) where
  w := w
  st := .refl
  e :=
    { len := by
        unfold startE L2.start
        simp [r.length]
      val := fun i d h => by
        unfold startE at h
        rcases r.getMap h with z | ⟨d', v, z, h1, h2⟩
        · cases z
        · cases z
          refine ⟨v, ?_, h2⟩
          unfold L2.start
          exact h1
      own := fun i ds' h => by
        unfold startE at h
        rcases r.getMap (m := 0) h with z | ⟨d', v, z, h1, h2⟩
        · cases z
        · cases z
      ne := fun i j ds' es a hij h1 h2 => by
        unfold startE at h1
        rcases r.getMap (m := 0) h1 with z | ⟨d', v, z, _, _⟩
        · cases z
        · cases z }
/-- the ends of a body -/
def retEnds (fr : Bool) (R : D → Prop) : VEnds := match fr with
  | false => ⟨fun _ => R .non, R, fun ds => R (.lst ds), fun _ => False, fun _ => False⟩
  | true => ⟨fun _ => False, fun _ => False, fun ds => R (.lst ds), fun _ => False, fun _ => False⟩
theorem ends_ok {K : PySem.W.Frag} {W : Wd} {H : Hp} {fr : Bool} {R : D → Prop} {Q : VK} (h : RetOk K fr W H R Q) : EndsOk ⟨K, W, H⟩ W (retEnds fr R) { nx := fun _ H' => Q .non H', rt := Q } := by
  cases fr with
  | false => exact ⟨fun W' H' ε σ l c q => h _ _ W' H' c.st c.w .non q, fun v d W' H' l s w r q => h d v W' H' s w r q,
      fun ds a xs W' H' l s w h1 h2 h3 h4 h5 h6 q => h (.lst ds) (.ref a) (W'.add a (.lst xs)) H' (frz_step s h1 h4 h6) (w.freeze h1 h4 h5) (.lst upd_same h3 (h2.mono (Wd.le_add h4))) q, fun _ _ _ _ _ _ q => q.elim, fun _ _ _ _ _ _ q => q.elim⟩
  | true => exact ⟨fun W' H' ε σ l c q => q.elim, fun v d W' H' l s w r q => q.elim, fun ds a xs W' H' l s w h1 h2 h3 h4 h5 h6 q => h ds a xs W' H' s w h1 h2 h3 h4 h5 h6 q, fun _ _ _ _ _ _ q => q.elim, fun _ _ _ _ _ _ q => q.elim⟩
/-- THE RULE of a def -/
theorem vfn_of {P : Program} {w : World} {K : PySem.W.Frag} {mg : Str → Option Value} {base : Heap} {x qual : Str} {st : Stmt} {f : Addr} {fd : FuncData} {N ps : List Str} {k : Nat} {fr : Bool} {sp : VSp} (F : Fun K x qual st f fd) (sc : FnScope N ps (defScope st)) (len : ∀ ds R E, sp ds R E → ds.length = ps.length)
    (body : ∀ (cdv : Value) (A : Around) (outer : List Env) (s : Shared) (H : Hp) (W : Wd) (E : XP) (EK : XK), BX (cxOf (L2.CX P w) P w K mg base N qual (defScope st) f cdv A outer s H EK) ⟨K, W, H⟩ k E →
      ∃ t, VSs (cxOf (L2.CX P w) P w K mg base N qual (defScope st) f cdv A outer s H EK) ⟨K, W, H⟩ (defBody st) t ∧ ∀ ds R, sp ds R E → t (retEnds fr R) (startE N ds)) :
    VFn P w K mg base (k + 1) f fd ps fr sp := by
  obtain ⟨oc, od, kV, doc, pm, an, cdv, ct, osl, rfl, lk, hcd⟩ := F.ex
  refine ⟨len, fun A outer s H W args us vs ds R E Q EK hr hgd e0 hb rv w0 ra hsp hQ hE => ?_⟩
  have hlen : vs.length = ps.length := by rw [ra.length]; exact len _ _ _ hsp
  have KS : K.In s.heap := e0.mod.kin.keeps fun b o e => (e0.bs b o e).1
  have nl : s.heap.NoLimit := e0.mod.nolimit.keeps fun b o e => (e0.bs b o e).1
  have kinds : ∀ y ∈ ps.zip us, (defScope st).names.lookup y.1 = some .local ∨ ((defScope st).names.lookup y.1 = some .cell ∧ ((cellsFrom (s.heap.objs.size + 1) (defScope st).names []).lookup y.1).isSome = true) := by
    rintro ⟨n, v⟩ hy
    rcases sc.par n (List.of_mem_zip hy).1 with z | z
    · exact .inl z
    · exact .inr ⟨z, PySem.W.cellsFrom_some _ _ _ (.inl z)⟩
  refine codeAny_call_function hr.depth (KS _ _ lk) rfl sc.co sc.gen rfl (PySem.W.codeRec_of KS hcd) (hb _ _ _ _ ?_)
  refine wpAny_newFunctionEnv_cells sc.kind kinds fun env he s1 ic => ?_
  subst he
  refine ⟨nl.keeps ic.toInCall.keep, codeAny_func ?_⟩
  have I : Inv (cxOf (L2.CX P w) P w K mg base N qual (defScope st) f cdv A outer s H EK) [] (start N vs) H s1 := inv_start sc hr.hd e0 hlen rv ic
  have B : BX (cxOf (L2.CX P w) P w K mg base N qual (defScope st) f cdv A outer s H EK) ⟨K, W, H⟩ k E := ⟨rfl, rfl, hr.deeper _, hgd, fun EK' h pins σ H' s' e s2 I' c' => by
    refine passes_call (takes_of rfl rfl rfl rfl) (fun cl d σ' H2 q => ?_) pins σ H' s' e s2 I' c'
    obtain ⟨x', fs, a, W', h1, h2, rfl, h4, h5, h6⟩ := h cl d H2 q
    exact hE x' fs a d W' H2 h1 h2 h4 h5 h6⟩
  obtain ⟨t, ht, hq⟩ := body cdv A outer s H W E EK B
  refine wpAny_mono (ht.run [] s1 (start N vs) H _ I ⟨W, startE N ds, retEnds fr R, cok_start w0 ra, hq ds R hsp, ends_ok hQ⟩) (fun fl s' hs => ?_) fun e s' hs => hs
  have fin : ∀ {σ' : St} {H' : Hp} {v : V} {u : Value}, Inv (cxOf (L2.CX P w) P w K mg base N qual (defScope st) f cdv A outer s H EK) [] σ' H' s' → RelV v u → Q v H' → CE outer P w H s Q u s' := fun {σ' H' v u} J r q => ⟨v, H', J.os, J.bare, J.base, J.hok, r, q⟩
  cases fl with
  | ret u =>
    obtain ⟨v, σ', H', J, r, q⟩ := hs
    exact fin J r q
  | next =>
    obtain ⟨σ', H', J, q⟩ := hs
    exact fin (v := V.non) (u := Value.none) J rfl q
  | brk =>
    obtain ⟨_, _, _, q⟩ := hs
    exact q.elim
  | cont =>
    obtain ⟨_, _, _, q⟩ := hs
    exact q.elim
end VL


set_option Elab.async false
set_option linter.all false
set_option maxRecDepth 100000
set_option maxHeartbeats 4000000
namespace VL
open PySem PySem.Spec PyProof.Rows L2

/-! ### what may be compared, what may be shown -/
mutual
def D.okc : Nat → D → Prop
  | _, .non => True
  | _, .bl _ => True
  | _, .int _ => True
  | _, .str s => PyData.strOk s = true
  | n, .lst ds => 0 < n ∧ D.okcA (n - 1) ds
  | n, .tup ds => 0 < n ∧ D.okcA (n - 1) ds
  | _, .dic _ _ => False
  | _, .scr _ => False
  | _, .pot => False
  | _, .raw _ => False
def D.okcA : Nat → List D → Prop
  | _, [] => True
  | n, d :: ds => D.okc n d ∧ D.okcA n ds
end
theorem D.okcA_iff {n : Nat} : ∀ {ds : List D}, D.okcA n ds ↔ ∀ d ∈ ds, D.okc n d
  | [] => by simp [D.okcA]
  | d :: ds => by
    simp only [D.okcA, List.mem_cons, forall_eq_or_imp]
    rw [D.okcA_iff]
@[simp] theorem D.okcA_map {α : Type} {n : Nat} {f : α → D} {xs : List α} : D.okcA n (xs.map f) ↔ ∀ x ∈ xs, D.okc n (f x) := by
  rw [D.okcA_iff]
  simp
@[simp] theorem D.okcA_append {n : Nat} {xs ys : List D} : D.okcA n (xs ++ ys) ↔ D.okcA n xs ∧ D.okcA n ys := by
  rw [D.okcA_iff, D.okcA_iff, D.okcA_iff]
  constructor
  · intro h
    exact ⟨fun d hd => h d (List.mem_append_left _ hd), fun d hd => h d (List.mem_append_right _ hd)⟩
  · rintro ⟨h1, h2⟩ d hd
    rcases List.mem_append.mp hd with h | h
    · exact h1 d h
    · exact h2 d h
mutual
theorem D.okc_data : ∀ {n : Nat} {d : D}, D.okc n d → d.data = true ∧ d.py.canLay0 = true ∧ d.py.depth ≤ n
  | _, .non, _ => ⟨rfl, by simp [D.py, PyData.canLay0], by simp [D.py, PyData.depth]⟩
  | _, .bl _, _ => ⟨rfl, by simp [D.py, PyData.canLay0], by simp [D.py, PyData.depth]⟩
  | _, .int _, _ => ⟨rfl, by simp [D.py, PyData.canLay0], by simp [D.py, PyData.depth]⟩
  | _, .str s, h => ⟨rfl, by simp only [D.py, PyData.canLay0]; exact h, by simp [D.py, PyData.depth]⟩
  | n, .lst ds, h => by
    have hA := D.okcA_data h.2
    have h0 := h.1
    refine ⟨hA.1, ?_, ?_⟩
    · simp only [D.py, PyData.canLay0]; exact hA.2.1
    · simp only [D.py, PyData.depth]; have := hA.2.2; omega
  | n, .tup ds, h => by
    have hA := D.okcA_data h.2
    have h0 := h.1
    refine ⟨hA.1, ?_, ?_⟩
    · simp only [D.py, PyData.canLay0]; exact hA.2.1
    · simp only [D.py, PyData.depth]; have := hA.2.2; omega
  | _, .dic _ _, h => h.elim
  | _, .scr _, h => h.elim
  | _, .pot, h => h.elim
  | _, .raw _, h => h.elim
theorem D.okcA_data : ∀ {n : Nat} {ds : List D}, D.okcA n ds → D.dataA ds = true ∧ PyData.canLayAll0 (D.pyA ds) = true ∧ PyData.depthAll (D.pyA ds) ≤ n
  | _, [], _ => ⟨rfl, by simp [D.pyA, PyData.canLayAll0], by simp [D.pyA, PyData.depthAll]⟩
  | n, d :: ds, h => by
    obtain ⟨a1, a2, a3⟩ := D.okc_data h.1
    obtain ⟨b1, b2, b3⟩ := D.okcA_data h.2
    refine ⟨by simp only [D.dataA, a1, b1, Bool.and_self], by simp only [D.pyA, PyData.canLayAll0, a2, b2, Bool.and_self], ?_⟩
    simp only [D.pyA, PyData.depthAll]; omega
end
theorem D.cmp_of {d : D} (h : d.okc 20) : d.cmp = true := by
  obtain ⟨h1, h2, h3⟩ := D.okc_data h
  unfold D.cmp SeqAt.shaped
  rw [h1, h2, decide_eq_true (show d.py.depth ≤ 64 by omega)]
  rfl
mutual
/-- how long it may be when shown -/
def D.wid : D → Nat
  | .non => 4
  | .bl _ => 5
  | .int _ => 33
  | .str s => 10 * s.length + 2
  | .lst ds => 3 + D.widA ds
  | .tup ds => 3 + D.widA ds
  | _ => 0
def D.widA : List D → Nat
  | [] => 0
  | d :: ds => D.wid d + 2 + D.widA ds
end
mutual
def D.okr : D → Prop
  | .int i => i.natAbs < 10 ^ 30
  | .lst ds => D.okrA ds
  | .tup ds => D.okrA ds
  | _ => True
def D.okrA : List D → Prop
  | [] => True
  | d :: ds => D.okr d ∧ D.okrA ds
end
theorem D.okrA_iff : ∀ {ds : List D}, D.okrA ds ↔ ∀ d ∈ ds, D.okr d
  | [] => by simp [D.okrA]
  | d :: ds => by
    simp only [D.okrA, List.mem_cons, forall_eq_or_imp]
    rw [D.okrA_iff]
@[simp] theorem D.okrA_map {α : Type} {f : α → D} {xs : List α} : D.okrA (xs.map f) ↔ ∀ x ∈ xs, D.okr (f x) := by
  rw [D.okrA_iff]
  simp
@[simp] theorem D.widA_ints {α : Type} {f : α → Int} : ∀ {xs : List α}, D.widA (xs.map fun a => D.int (f a)) = 35 * xs.length
  | [] => rfl
  | x :: xs => by
    rw [List.map_cons, D.widA, D.widA_ints, D.wid, List.length_cons]; omega
theorem D.widA_append : ∀ {xs ys : List D}, D.widA (xs ++ ys) = D.widA xs + D.widA ys
  | [], ys => by simp [D.widA]
  | x :: xs, ys => by rw [List.cons_append, D.widA, D.widA, D.widA_append]; omega
theorem D.widA_le {b : Nat} : ∀ {xs : List D}, (∀ x ∈ xs, x.wid ≤ b) → D.widA xs ≤ (b + 2) * xs.length
  | [], _ => by simp [D.widA]
  | x :: xs, h => by
    have h1 := h x List.mem_cons_self
    have h2 := D.widA_le (b := b) (xs := xs) fun y hy => h y (List.mem_cons_of_mem _ hy)
    rw [D.widA, List.length_cons, Nat.mul_succ]; omega
theorem int_wid {i : Int} (h : i.natAbs < 10 ^ 30) : (Str.ofString (toString i)).length ≤ 33 := by
  have h1 := int_text_length_le10 (a := i) (k := 30) (by decide) h
  have h2 : (Str.ofString (toString i)).length = (toString i).length := PySem.ofString_length _
  omega
mutual
theorem D.shown_le : ∀ {n : Nat} {d : D}, D.okc n d → D.okr d → d.py.shown.length ≤ d.wid
  | _, .non, _, _ => by
    have e : (PyData.shown .none).length = 4 := rfl
    simp only [D.py, D.wid]; omega
  | _, .bl b, _, _ => by
    have e : (PyData.shown (.bool b)).length ≤ 5 := by cases b <;> decide
    simp only [D.py, D.wid]; omega
  | _, .int i, _, h => by
    simp only [D.py, D.wid, PyData.shown]
    exact int_wid h
  | _, .str s, h, _ => by
    simp only [D.py, D.wid, PyData.shown]
    refine StrLaws.reprText_len s fun c hc => ?_
    have h' : s.cps.all (· < 0x110000) = true := h
    have h2 : ∀ i (hi : i < s.cps.size), s.cps[i] < 0x110000 := by simpa using h'
    have hc' : c ∈ s.cps := by simpa using hc
    obtain ⟨i, hi, rfl⟩ := Array.mem_iff_getElem.mp hc'
    have := h2 i hi
    omega
  | n, .lst ds, h, hr => by
    have h1 := D.shownA_le h.2 hr
    have h2 := listText_len_le (PyData.shownAll (D.pyA ds))
    have h3 := PyData.shownAll_length (D.pyA ds)
    simp only [D.py, D.wid, PyData.shown]
    omega
  | n, .tup ds, h, hr => by
    have h1 := D.shownA_le h.2 hr
    have h2 := tupleText_len_le (PyData.shownAll (D.pyA ds))
    have h3 := PyData.shownAll_length (D.pyA ds)
    simp only [D.py, D.wid, PyData.shown]
    omega
  | _, .dic _ _, h, _ => h.elim
  | _, .scr _, h, _ => h.elim
  | _, .pot, h, _ => h.elim
  | _, .raw _, h, _ => h.elim
theorem D.shownA_le : ∀ {n : Nat} {ds : List D}, D.okcA n ds → D.okrA ds → ((PyData.shownAll (D.pyA ds)).map (·.length)).sum + 2 * (D.pyA ds).length ≤ D.widA ds
  | _, [], _, _ => by simp only [D.pyA, PyData.shownAll, List.map_nil, List.sum_nil, List.length_nil, D.widA]; omega
  | n, d :: ds, h, hr => by
    have h1 := D.shown_le h.1 hr.1
    have h2 := D.shownA_le h.2 hr.2
    simp only [D.pyA, PyData.shownAll, List.map_cons, List.sum_cons, List.length_cons, D.widA]
    omega
end
mutual
theorem D.okr_show : ∀ {n : Nat} {d : D}, D.okc n d → D.okr d → d.py.showable = true ∧ d.py.hasDict = false
  | _, .non, _, _ => ⟨rfl, rfl⟩
  | _, .bl _, _, _ => ⟨rfl, rfl⟩
  | _, .int i, _, h => ⟨by
      simp only [D.py, PyData.showable, decide_eq_true_eq]
      by_cases h0 : i.natAbs = 0
      · rw [h0]; decide
      · have h' : i.natAbs < 10 ^ 30 := h
        exact (Nat.log2_lt h0).mpr (Nat.lt_of_lt_of_le h' (by decide)), rfl⟩
  | _, .str _, _, _ => ⟨rfl, rfl⟩
  | n, .lst ds, h, hr => by
    obtain ⟨h1, h2⟩ := D.okrA_show h.2 hr
    exact ⟨by simp only [D.py, PyData.showable]; exact h1, by simp only [D.py, PyData.hasDict]; exact h2⟩
  | n, .tup ds, h, hr => by
    obtain ⟨h1, h2⟩ := D.okrA_show h.2 hr
    exact ⟨by simp only [D.py, PyData.showable]; exact h1, by simp only [D.py, PyData.hasDict]; exact h2⟩
  | _, .dic _ _, h, _ => h.elim
  | _, .scr _, h, _ => h.elim
  | _, .pot, h, _ => h.elim
  | _, .raw _, h, _ => h.elim
theorem D.okrA_show : ∀ {n : Nat} {ds : List D}, D.okcA n ds → D.okrA ds → PyData.showableAll (D.pyA ds) = true ∧ PyData.hasDictAll (D.pyA ds) = false
  | _, [], _, _ => ⟨rfl, rfl⟩
  | n, d :: ds, h, hr => by
    obtain ⟨h1, h2⟩ := D.okr_show h.1 hr.1
    obtain ⟨h3, h4⟩ := D.okrA_show h.2 hr.2
    exact ⟨by simp only [D.pyA, PyData.showableAll, h1, h3, Bool.and_self], by simp only [D.pyA, PyData.hasDictAll, h2, h4, Bool.or_self]⟩
end
/-- the text of a value -/
def D.shown (d : D) : Str := d.py.shown
def gRepr (xs : List D) (R : D → Prop) : Prop := match xs with
  | [d] => d.okc 20 ∧ d.okr ∧ d.wid ≤ 16777216 ∧ R (.str d.shown)
  | _ => False
def rRepr (K : PySem.W.Frag) : List V → Hp → VK → Prop := fun xs H Q => ∃ x d, xs = [x] ∧ Dp K H x d ∧ d.showable = true ∧ d.hasDict = false ∧ d.depth ≤ 20 ∧ d.shown.length ≤ sizeLine ∧ Q (.str d.shown) H
section
variable {X : Cx} {C : VC}
theorem call_reprD (hg : X.A.guards = some []) (hu : X.A.units + 64 < cLine) : CallR X (.builtin "repr") (rRepr X.K) := by
  intro pins s σ H xs us Q I r h
  obtain ⟨x, d, rfl, hd, h1, h2, h3, h4, q⟩ := h
  obtain ⟨u, rfl, ru⟩ := vals1 r
  obtain ⟨as, rd⟩ := Dp.reads I d x u hd ru
  cases hd with
  | non =>
    cases ru
    exact PySem.P.repr_of_none ⟨.str (PyData.shown .none), H, I.tok _, ⟨_, rfl⟩, q⟩
  | bl b =>
    cases ru
    refine PySem.P.repr_of_bool ⟨.str (PyData.shown (.bool b)), H, I.tok _, ⟨s.toks, ?_⟩, q⟩
    simp only [PyData.shown]
  | int i =>
    obtain ⟨t, rfl⟩ := ru
    have h1' : i.natAbs.log2 < 1920 := by simpa [PyData.showable] using h1
    refine PySem.P.repr_of_int h1' ⟨.str (PyData.shown (.int i)), H, I.tok _, ⟨s.toks, ?_⟩, q⟩
    simp only [PyData.shown]
  | str z =>
    obtain ⟨t, rfl⟩ := ru
    have h4' : (reprText z).length ≤ sizeLine := by simpa only [PyData.shown] using h4
    refine PySem.P.repr_of_str ⟨.str (PyData.shown (.str z)), H, I.tok _, ⟨s.toks, ?_⟩, q⟩ h4'
    simp only [PyData.shown]
  | lst hs ha =>
    cases ru
    exact repr_of_reads' rd h1 (PyData.noDict_hsm h2) hg (by omega) (fun _ _ e => e) (fun h' u tk hk => ⟨.str _, H, I.kept (t' := tk) hk, ⟨_, rfl⟩, q⟩) h4
  | tup hs ha =>
    cases ru
    exact repr_of_reads' rd h1 (PyData.noDict_hsm h2) hg (by omega) (fun _ _ e => e) (fun h' u tk hk => ⟨.str _, H, I.kept (t' := tk) hk, ⟨_, rfl⟩, q⟩) h4
theorem vra_repr (hK : C.K = X.K) : VRA C (rRepr X.K) gRepr := by
  intro W H xs ds R Q w ra q k
  unfold gRepr at q
  split at q
  · rename_i d
    obtain ⟨x, rfl, r⟩ := repA1 ra
    obtain ⟨h1, h2, h3, q⟩ := q
    obtain ⟨a1, a2, a3⟩ := D.okc_data h1
    obtain ⟨b1, b2⟩ := D.okr_show h1 h2
    refine ⟨x, d.py, rfl, hK ▸ r.dp w a1, b1, b2, a3, ?_, k _ _ W H .refl w (.str _) q⟩
    have := D.shown_le h1 h2
    rw [sizeLine_val]; omega
  · exact q.elim
end

/-! ### the law's own call -/
/-- THE HEAD: the law's promise at the heap behind the top -/
theorem law_v {P : Program} {w : World} {K : PySem.W.Frag} {mg mb : Str → Option Value} {k : Nat} {fa a : Addr} {fd : FuncData} {x : Str} {sp : VSp} {s₁ : Shared} {vs : List Value} {ns : List Int}
    (KX : K.In s₁.heap) (hns : s₁.heap.Ns mainGlobals mg) (hb : s₁.heap.Ns builtinsNs mb) (hbb : ∀ x : Str, x ≠ "__name__" → mb x = bootBuiltins x) (hlim : s₁.heap.NoLimit) (hg : s₁.gens = #[])
    (ha : s₁.heap.get? a = some { cls := .type "list", data := .seq vs.toArray }) (hi : IntsAre vs ns) (hl : ns.length ≤ sizeLine) (hr : Room k callerA)
    (F : ∀ base : Heap, K.In base → base.Ns mainGlobals mg → VFn P w K mg base k fa fd [x] false sp) (hbind : ∀ (s : Shared) (u : Value), BindsTo s fd ⟨[u], []⟩ [(x, u)])
    (hsp : ∀ R, R (.bl true) → sp [.scr ns] R noX) :
    codeAny (model P w) callerA (.call (.ref fa) ⟨[.ref a], []⟩) (fun r s' => r = .ok (.ret (.bool true)) ∧ OldK s₁.heap s'.heap ∧ s'.os = s₁.os ∧ AllBare s'.gens) s₁ := by
  have hvals := vals_ints hi
  have hlen := hi.length
  have main : ∀ H : Hp, Only H → SqL K H a (ns.map V.int) → HOk P w H s₁.heap → (∀ b, H b ≠ none → b = a) → (H a ≠ none → K.lookup a = none) →
      codeAny (model P w) callerA (.call (.ref fa) ⟨[.ref a], []⟩) (fun r s' => r = .ok (.ret (.bool true)) ∧ OldK s₁.heap s'.heap ∧ s'.os = s₁.os ∧ AllBare s'.gens) s₁ := by
    intro H hO hS hok honly hfree
    have dictFree : ∀ {b : Addr} {o : Obj} {es : Array DictEntry} {ep : Nat}, s₁.heap.get? b = some o → o.data = .dict es ep → H b = none := by
      intro b o es ep e d
      cases q : H b with
      | none => rfl
      | some u =>
        have e' := honly b (by rw [q]; simp)
        subst e'
        rw [ha] at e; cases e
        exact nomatch (show Data.seq vs.toArray _ = Data.dict es ep from d)
    have nsB : ∀ {b : Addr} {m : Str → Option Value}, s₁.heap.Ns b m → (hidT s₁.heap H).Ns b m := by
      rintro b m ⟨o, es, ep, e, d, r⟩
      exact ⟨o, es, ep, hidT_get e (dictFree e d), d, r⟩
    have KB : K.In (hidT s₁.heap H) := by
      intro b o e
      refine hidT_get (KX b o e) ?_
      cases q : H b with
      | none => rfl
      | some u =>
        have e' := honly b (by rw [q]; simp)
        subst e'
        rw [hfree (by rw [q]; simp)] at e; cases e
    have md : Mod K mg (hidT s₁.heap H) := by
      obtain ⟨mc, l1, l2⟩ := hlim
      exact ⟨KB, nsB hns, ⟨mb, nsB hb, hbb⟩, ⟨mc, nsB l1, l2⟩⟩
    have e0 : Env0 P w K mg (hidT s₁.heap H) callerA [] s₁ H := by
      refine ⟨rfl, md, fun b o e => of_hidT e, Nat.le_of_eq (hidT_size _ _), trivial, ?_, hok, .of_eq hg⟩
      intro b hb'
      exact nomatch (show b ∈ ([] : List Addr) from hb')
    -- the world: what stands there is frozen
    have w0 : WOk ⟨H, fun _ => False⟩ H := ⟨fun _ _ e => e, fun _ q => q.elim⟩
    have run := (F _ KB (nsB hns)).run callerA [] s₁ H ⟨H, fun _ => False⟩ ⟨[.ref a], []⟩ [.ref a] [.ref a] [.scr ns] (fun d => d = .bl true) noX (fun v _ => v = .bl true) (fun _ _ _ => False) hr rfl e0 (hbind s₁ (.ref a)) (.cons rfl .nil) w0
      (.cons (.scr hS) .nil) (hsp _ rfl) (fun d v W' H' _ _ r q => by subst q; cases r; rfl) (fun _ _ _ _ _ _ _ _ _ _ q => q)
    refine codeAny_mono run fun res s' h => ?_
    cases res with
    | error e =>
      obtain ⟨_, _, _, _, _, _, _, _, _, _, _, _, z⟩ := h
      exact z.elim
    | ok fl =>
      cases fl with
      | next => exact h.elim
      | brk => exact h.elim
      | cont => exact h.elim
      | ret u =>
        obtain ⟨v, H', os, bare, un, hok', r', q⟩ := h
        obtain rfl : v = .bl true := q
        obtain rfl : u = Value.bool true := r'
        refine ⟨rfl, OldK.of_keep fun b o e => ?_, os, bare⟩
        cases q : H b with
        | none => exact un.keep b o e q (fun z => nomatch (show b ∈ ([] : List Addr) from z)) (by simp)
        | some u =>
          rcases hO b with z | ⟨ob, xs, z⟩
          · rw [q] at z; cases z
          · obtain ⟨e1, _⟩ := hok b _ z
            obtain ⟨e2, _⟩ := hok' b _ (un.frzs b ob _ z)
            rw [e] at e1; cases e1
            exact e2
  cases hk : K.lookup a with
  | some o =>
    have e := KX a o hk
    rw [ha] at e
    cases e
    refine main (fun _ => none) (fun _ => .inl rfl) (.inr ⟨_, vs.toArray, _, hk, rfl, rfl, rfl, by rw [List.size_toArray, hlen]; exact hl, by simpa using hvals⟩) (fun b u z => nomatch (show (none : Option HO) = some u from z)) (fun b z => (z rfl).elim) fun z => (z rfl).elim
  | none =>
    refine main (fun b => if b = a then some (.frz { cls := .type "list", data := .seq vs.toArray } (.lst (ns.map V.int))) else none) ?_ (.inl (.inr ⟨{ cls := .type "list", data := .seq vs.toArray }, if_pos rfl⟩)) ?_ ?_ fun _ => hk
    · intro b
      by_cases hb : b = a
      · exact .inr ⟨_, _, if_pos hb⟩
      · exact .inl (if_neg hb)
    · intro b u z
      by_cases hb : b = a
      · subst hb
        have z' := (if_pos rfl).symm.trans z
        cases z'
        exact ⟨ha, by rw [List.length_map]; exact hl, vs, _, hvals, ha⟩
      · have z' := (if_neg hb).symm.trans z
        cases z'
    · intro b z
      by_cases hb : b = a
      · exact hb
      · exact (z (if_neg hb)).elim
/-- the end of a law -/
theorem walk_v {l : PySem.W.OpenLaw} {n k : Nat} {q : Program} {loose : List Str} {XP' : (Str → Option Value) → Heap → Prop} {YP : World → Heap → Prop} {d : DefRec} {x : Str}
    (hn : l.most = some n) (hn2 : n ≤ sizeLine) (hdf : d.params.defaults = []) (hr : Room k callerA)
    (F : ∀ (w : World) (mg : Str → Option Value) (fa : Addr) (h : Heap), YP w h → h.Ns mainGlobals mg → mg d.name = some (.ref fa) →
      ∃ (K : PySem.W.Frag) (fd : FuncData) (sp : VSp), K.In h ∧ (∀ (s : Shared) (u : Value), BindsTo s fd ⟨[u], []⟩ [(x, u)]) ∧
        (∀ (ns : List Int) R, ns.length ≤ n → R (.bl true) → sp [.scr ns] R noX) ∧
        ∀ base : Heap, K.In base → base.Ns mainGlobals mg → VFn l.prog w K mg base k fa fd [x] false sp) :
    PySem.W.WalkO q loose XP' YP l.row.toRowW d [] (fun f vs => PySem.call f vs) := by
  refine Att.attach_call hn hdf fun w s₀ s₁ mg mb fa o pm cd doc a vs ns G Y ho hd hcd hmg hobj hints hlen hg => ?_
  obtain ⟨K, fd, sp, KX, hb, hsp, hF⟩ := F w mg fa _ Y G.T.g hmg
  exact law_v KX G.T.g G.T.b G.T.builtins G.T.nolimit hg hobj hints (Nat.le_trans hlen hn2) hr hF hb fun R hR => hsp ns R hlen hR
end VL


set_option Elab.async false
set_option linter.all false
set_option maxRecDepth 100000
set_option maxHeartbeats 4000000
namespace VL
open PySem PySem.Spec PyProof.Rows L2
section
variable {X : Cx} {C : VC} {k : Nat} {E : XP}
theorem BX.u64 (B : BX X C k E) : X.A.units + 64 < cLine := B.room.units
theorem BX.u65 (B : BX X C k E) : X.A.units + 65 < cLine := by have := B.room.un; omega
theorem ve_globI {x : Str} {i : Int} {pos : Pos} (hg : Gl X x) (h : ∃ t, X.mg x = some (.int i t)) (hdb : (x == ("__debug__" : Str)) = false := by decide) : VE X C (.Name x pos) (eC (.int i)) := by
  obtain ⟨t, h⟩ := h
  exact ve_glob (v := .int i) hg h ⟨t, rfl⟩ (fun _ => .int i) hdb
def wPar3 (i j l : Nat) (w : WA) : WS := fun V ε => w ε fun ds => match ds with
  | [d, d', d''] => V.nx (((ε.set i (.val d)).set j (.val d')).set l (.val d''))
  | _ => False
theorem vs_par3 {i j l : Nat} {x y z : Str} {a b c : Expr} {w : WA} {px py pz pt pos : Pos} {kt k2 pt2} (hc : X.calm = true) (hN : X.N.Nodup) (hi : X.N[i]? = some x) (hj : X.N[j]? = some y) (hl : X.N[l]? = some z) (hij : i ≠ j) (hil : i ≠ l) (hjl : j ≠ l)
    (hx : X.env.scope.names.lookup x = some .local) (hy : X.env.scope.names.lookup y = some .local) (hz : X.env.scope.names.lookup z = some .local) (ha : VA X C [a, b, c] w)
    (hw : swappedStores [.Tuple [.Name x px, .Name y py, .Name z pz] kt pt] (.Tuple [a, b, c] k2 pt2) X.env = pure (some [x, y, z]))
    (hs : swapsWithSole [.Tuple [.Name x px, .Name y py, .Name z pz] kt pt] (.Tuple [a, b, c] k2 pt2) pos.line X.env = pure false := by rfl) :
    VS X C (.Assign [.Tuple [.Name x px, .Name y py, .Name z pz] kt pt] (.Tuple [a, b, c] k2 pt2) pos) (wPar3 i j l w) := PS.imp (ps_par3 hc hN hi hj hl hij hil hjl hx hy hz ha hw hs) fun D' σ H q => by
  obtain ⟨W, ε, V, c, hw, k⟩ := q
  refine ⟨W, ε, _, c, hw, fun ds vs W' H' s w' r q => ?_⟩
  have c' := c.step s w'
  cases r with
  | nil => exact (show False from q).elim
  | cons r1 r =>
    cases r with
    | nil => exact (show False from q).elim
    | cons r2 r =>
      cases r with
      | nil => exact (show False from q).elim
      | cons r3 r =>
        cases r with
        | cons _ _ => exact (show False from q).elim
        | nil => exact ⟨_, _, _, rfl, k.nx W' H' _ _ s.le ⟨c'.w, c'.st, ((c'.e.set r1).set r2).set r3⟩ q⟩
end
theorem bindP_fun {K : PySem.W.Frag} {x qual : Str} {st : Stmt} {f : Addr} {fd : FuncData} {ps : List Str} (F : Fun K x qual st f fd)
    (h : ∀ (kV doc pm : Value) (an : Option Addr) (cdv ct : Value) (us : List Value), us.length = ps.length → bindArgs (PySem.W.fnOf x qual (defArgs st) (defBody st) (defScope st) .none kV doc pm an cdv ct) ⟨us, []⟩ = pure (ps.zip us)) : BindP K fd ps := by
  obtain ⟨oc, od, kV, doc, pm, an, cdv, ct, osl, rfl, lk, hcd⟩ := F.ex
  exact bindP_of (h kV doc pm an cdv ct)
theorem bindK_fun {K : PySem.W.Frag} {x qual : Str} {st : Stmt} {f : Addr} {fd : FuncData} {ps ks : List Str} {n : Nat} {perm : List Nat} (F : Fun K x qual st f fd)
    (h : ∀ (kV doc pm : Value) (an : Option Addr) (cdv ct : Value) (us ws : List Value), us.length = n → ws.length = ks.length → bindArgs (PySem.W.fnOf x qual (defArgs st) (defBody st) (defScope st) .none kV doc pm an cdv ct) ⟨us, ks.zip ws⟩ = pure (ps.zip (permU perm us ws))) : BindK K fd ps ks n perm := by
  obtain ⟨oc, od, kV, doc, pm, an, cdv, ct, osl, rfl, lk, hcd⟩ := F.ex
  exact bindK_of (h kV doc pm an cdv ct)

/-! ### loops and comprehensions by induction -/
theorem compL_ind {g : WG} {t : WT} {e : WE} {R : List D → Prop} {ε : Ev} (I : List D → List D → Prop)
    (step : ∀ d ds acc (K : List D → Prop), I (d :: ds) acc → (∀ acc', I ds acc' → K acc') → g d ε fun ε' => t ε' fun b => if b = true then e ε' fun y => K (acc ++ [y]) else K acc)
    (hd : ∀ acc, I [] acc → R acc) : ∀ ds acc, I ds acc → compL g t e R ε ds acc
  | [], acc, h => hd acc h
  | d :: ds, acc, h => step d ds acc (fun acc => compL g t e R ε ds acc) h fun acc' h' => compL_ind I step hd ds acc' h'
/-- each item of a typed list gives one of the new one -/
theorem compL_map {α : Type} {g : WG} {t : WT} {e : WE} {R : List D → Prop} {ε : Ev} (enc : α → D) (f : α → D) : ∀ (xs : List α) (acc : List D)
    (_ : ∀ x ∈ xs, ∀ (K : D → Prop) (K0 : Prop), K (f x) → g (enc x) ε fun ε' => t ε' fun b => if b = true then e ε' K else K0) (_ : R (acc ++ xs.map f)), compL g t e R ε (xs.map enc) acc
  | [], acc, _, h => by
    show R acc
    simpa using h
  | x :: xs, acc, step, h => by
    rw [List.map_cons]
    refine step x List.mem_cons_self (fun y => compL g t e R ε (xs.map enc) (acc ++ [y])) _ ?_
    exact compL_map enc f xs (acc ++ [f x]) (fun y hy => step y (List.mem_cons_of_mem _ hy)) (by simpa using h)
theorem compL_fil {α : Type} {g : WG} {t : WT} {e : WE} {R : List D → Prop} {ε : Ev} (enc : α → D) (f : α → Option D) : ∀ (xs : List α) (acc : List D)
    (_ : ∀ x ∈ xs, ∀ (K : D → Prop) (K0 : Prop), (match f x with | some d => K d | none => K0) → g (enc x) ε fun ε' => t ε' fun b => if b = true then e ε' K else K0) (_ : R (acc ++ xs.filterMap f)), compL g t e R ε (xs.map enc) acc
  | [], acc, _, h => by
    show R acc
    simpa using h
  | x :: xs, acc, step, h => by
    rw [List.map_cons]
    refine step x List.mem_cons_self (fun y => compL g t e R ε (xs.map enc) (acc ++ [y])) (compL g t e R ε (xs.map enc) acc) ?_
    have st := fun y (hy : y ∈ xs) => step y (List.mem_cons_of_mem _ hy)
    cases hf : f x with
    | some d =>
      refine compL_fil enc f xs (acc ++ [d]) st ?_
      rw [List.filterMap_cons, hf] at h
      simpa using h
    | none =>
      refine compL_fil enc f xs acc st ?_
      rw [List.filterMap_cons, hf] at h
      exact h
/-- what each item gives is one of many -/
theorem compL_any {α β : Type} {g : WG} {t : WT} {e : WE} {R : List D → Prop} {ε : Ev} (enc : α → D) (enc2 : β → D) (P : β → Prop) : ∀ (xs : List α) (acc : List D)
    (_ : ∀ x ∈ xs, ∀ (K : D → Prop) (K0 : Prop), (∀ b, P b → K (enc2 b)) → g (enc x) ε fun ε' => t ε' fun b => if b = true then e ε' K else K0) (_ : ∀ bs : List β, bs.length = xs.length → (∀ b ∈ bs, P b) → R (acc ++ bs.map enc2)), compL g t e R ε (xs.map enc) acc
  | [], acc, _, h => by
    have := h [] rfl (by simp)
    show R acc
    simpa using this
  | x :: xs, acc, step, h => by
    rw [List.map_cons]
    refine step x List.mem_cons_self (fun y => compL g t e R ε (xs.map enc) (acc ++ [y])) _ fun b hb => ?_
    refine compL_any enc enc2 P xs (acc ++ [enc2 b]) (fun y hy => step y (List.mem_cons_of_mem _ hy)) fun bs hl hbs => ?_
    have := h (b :: bs) (by simp [hl]) (by simpa using ⟨hb, hbs⟩)
    simpa using this
theorem turns_ind {α : Type} {g : WG} {b : WS} {V : VEnds} (enc : α → D) (I : List α → Ev → Prop)
    (step : ∀ x xs ε (K : Ev → Prop), I (x :: xs) ε → (∀ ε', I xs ε' → K ε') → g (enc x) ε fun ε' => b { V with nx := K, ct := K, bk := V.nx } ε') (hd : ∀ ε, I [] ε → V.nx ε) : ∀ xs ε, I xs ε → turns g b V (xs.map enc) ε
  | [], ε, h => hd ε h
  | x :: xs, ε, h => by
    rw [List.map_cons]
    exact step x xs ε (turns g b V (xs.map enc)) h fun ε' h' => turns_ind enc I step hd xs ε' h'
theorem zipL_map {α β : Type} (f : α → D) (g : β → D) : ∀ (xs : List α) (ys : List β), zipL (xs.map f) (ys.map g) = (xs.zip ys).map fun p => .tup [f p.1, g p.2]
  | [], _ => by simp [zipL]
  | _ :: _, [] => by simp [zipL]
  | x :: xs, y :: ys => by
    have ih := zipL_map f g xs ys
    unfold zipL at ih ⊢
    rw [List.map_cons, List.map_cons, List.zipWith_cons_cons, ih, List.zip_cons_cons, List.map_cons]
theorem enumL_map {α : Type} (f : α → D) (xs : List α) : enumL (xs.map f) = xs.zipIdx.map fun p => .tup [.int (p.2 : Int), f p.1] := by
  unfold enumL
  refine List.ext_getElem? fun i => ?_
  rw [List.getElem?_mapIdx, List.getElem?_map, List.getElem?_map, List.getElem?_zipIdx]
  cases xs[i]? with
  | none => rfl
  | some x => simp
theorem cutL_map {α β : Type} (f : α → β) (xs : List α) (lo hi : Option Int) : cutL (xs.map f) lo hi = (cutL xs lo hi).map f := by
  unfold cutL
  rw [List.length_map, List.map_take, List.map_drop]
theorem cutL_take {α : Type} (xs : List α) (k : Nat) : cutL xs none (some (k : Int)) = xs.take k := by
  unfold cutL
  rw [HT.sIx_none, HT.sIx_nat, List.drop_zero, Nat.sub_zero]
  by_cases h : k ≤ xs.length
  · rw [Nat.min_eq_left h]
  · rw [Nat.min_eq_right (by omega), List.take_of_length_le (Nat.le_refl _), List.take_of_length_le (by omega)]
theorem cutL_drop {α : Type} (xs : List α) (k : Nat) : cutL xs (some (k : Int)) none = xs.drop k := by
  unfold cutL
  rw [HT.sIx_none, HT.sIx_nat]
  by_cases h : k ≤ xs.length
  · rw [Nat.min_eq_left h, List.take_of_length_le (by simp)]
  · rw [Nat.min_eq_right (by omega), Nat.sub_self, List.drop_of_length_le (by omega), List.take_zero, List.drop_of_length_le (by omega)]
theorem cutL_take' {α : Type} (xs : List α) (k : Int) (h : 0 ≤ k) : cutL xs none (some k) = xs.take k.toNat := by
  have := cutL_take xs k.toNat
  rwa [Int.toNat_of_nonneg h] at this
theorem cutL_drop' {α : Type} (xs : List α) (k : Int) (h : 0 ≤ k) : cutL xs (some k) none = xs.drop k.toNat := by
  have := cutL_drop xs k.toNat
  rwa [Int.toNat_of_nonneg h] at this
theorem rangeL_def (j : Int) : rangeL 0 j = (List.range j.toNat).map fun (k : Nat) => D.int (k : Int) := by
  unfold rangeL
  rw [Int.sub_zero]
  refine List.map_congr_left fun k _ => ?_
  rw [Int.zero_add]
end VL


set_option Elab.async false
set_option linter.all false
set_option maxRecDepth 100000
set_option maxHeartbeats 4000000
namespace VL
open PySem PySem.Spec PyProof.Rows L2

/-! ### zip of a list and a tuple, in any mix -/
inductive Src where
  | l (a : Addr)
  | t (a : Addr)
def Src.ad : Src → Addr
  | .l a => a
  | .t a => a
def Src.sq (K : PySem.W.Frag) (H : Hp) (p : Src) (xs : List V) : Prop := match p with
  | .l a => SqL K H a xs
  | .t a => SqT K H a xs
def Src.it (p : Src) (it : Addr) (i : Nat) (h : Heap) : Prop := match p with
  | .l a => h.IsListIter it a i
  | .t a => h.IsTupleIter it a i
def Src.at (p : Src) (its : Array Value) (h : Heap) : Prop := match p with
  | .l a => h.IsList a its
  | .t a => h.IsTuple a its
def Src.ob (p : Src) : Obj := match p with
  | .l a => { cls := .type "list_iterator", data := .fields #[.ref a, .int 0 0] }
  | .t a => { cls := .type "tuple_iterator", data := .fields #[.ref a, .int 0 0] }
theorem Src.draws {prog : Program} {w : World} {A : Around} (hh : A.handled = none) (p : Src) (it : Addr) (hne : p.ad ≠ it) (its : Array Value) :
    Draws prog w A it [it, p.ad] its.size (fun i v => its[i]? = some v) (fun i h => p.it it i h ∧ p.at its h) := match p with
  | .l a => Draws.list hh it a hne its
  | .t a => Draws.tuple hh it a hne its
theorem Src.begins (p : Src) (its : Array Value) : Begins (.ref p.ad) p.ob (fun h => p.at its h) := match p with
  | .l a => begins_list a its
  | .t a => begins_tuple a its
theorem Src.obj {p : Src} {it : Addr} {i : Nat} {h : Heap} (st : p.it it i h) : ∃ o, h.get? it = some o ∧ ∀ v, o.data ≠ .cell v := by
  cases p with
  | l a => obtain ⟨o, e, _, d⟩ := st; exact ⟨o, e, fun v q => by rw [d] at q; cases q⟩
  | t a => obtain ⟨o, e, _, d⟩ := st; exact ⟨o, e, fun v q => by rw [d] at q; cases q⟩
theorem Src.keep {p : Src} {it : Addr} {i : Nat} {h h' : Heap} (st : p.it it i h) (k : ∀ o, h.get? it = some o → h'.get? it = some o) : p.it it i h' := by
  cases p with
  | l a => exact Heap.IsListIter.at st fun o e => k o e
  | t a => exact Heap.IsTupleIter.at st fun o e => k o e
theorem Src.start {p : Src} {it : Addr} {h : Heap} (e : h.get? it = some p.ob) : p.it it 0 h := by
  cases p with
  | l a => exact ⟨_, e, rfl, rfl⟩
  | t a => exact ⟨_, e, rfl, rfl⟩
section
variable {X : Cx} {pins : List (Addr × Obj)} {σ : St} {H : Hp} {s : Shared}
theorem Src.of_sq (I : Inv X pins σ H s) {p : Src} {xs : List V} (h : p.sq X.K H xs) : ∃ its : List Value, Vals xs its ∧ p.at its.toArray s.heap ∧ p.ad < s.heap.objs.size := by
  cases p with
  | l a =>
    obtain ⟨its, rv, pl, _⟩ := I.list h
    exact ⟨its, rv, pl.isList, pl.lt⟩
  | t a =>
    obtain ⟨its, rv, pt, _⟩ := I.tuple h
    obtain ⟨o, e, _⟩ := id pt
    exact ⟨its, rv, pt, Heap.lt_size e⟩
theorem Src.inj (I : Inv X pins σ H s) {p : Src} {xs ys : List V} (h : p.sq X.K H xs) (h' : p.sq X.K H ys) : xs = ys := by
  cases p with
  | l a => exact I.list_inj h h'
  | t a => exact I.tuple_inj h h'
end
def ItzG (K : PySem.W.Frag) (p q : Src) : It :=
  ⟨fun i H => ∃ (xs ys : List V) (x y : V), p.sq K H xs ∧ q.sq K H ys ∧ xs[i]? = some x ∧ ys[i]? = some y,
    fun i H v H' => ∃ T x y, v = .ref T ∧ H T = none ∧ H' = upd H T (.tup [x, y]) ∧ (∀ xs, p.sq K H xs → xs[i]? = some x) ∧ ∀ ys, q.sq K H ys → ys[i]? = some y,
    fun i H => ∃ xs ys : List V, p.sq K H xs ∧ q.sq K H ys ∧ i ≤ xs.length ∧ i ≤ ys.length ∧ (xs.length = i ∨ ys.length = i)⟩
theorem zipG_item {prog : Program} {w : World} {A : Around} {E : Value → Shared → Prop} {s : Shared} {z TI TO i1 i2 : Addr} {p q : Src} {i : Nat} {a1 a2 : Value} {its its2 : Array Value} {x y : Value} {Q : Option Value → Shared → Prop} (hh : A.handled = none) (S : ZipSep2 z TI TO i1 i2 [i1, p.ad] [i2, q.ad])
    (n1 : p.ad ≠ i1) (n2 : q.ad ≠ i2) (hz : IsZip s.heap z TI TO .none) (hTI : IsTupOf2 s.heap TI (.ref i1) (.ref i2)) (hTO : IsTupOf2 s.heap TO a1 a2) (st1 : p.it i1 i s.heap) (st2 : q.it i2 i s.heap) (c1 : p.at its s.heap) (c2 : q.at its2 s.heap) (hx : its[i]? = some x) (hy : its2[i]? = some y)
    (hQ : ∀ h' tk, IsZip h' z TI TO (rawInt s.heap.objs.size) → IsTupOf2 h' TO x y → p.it i1 (i + 1) h' → q.it i2 (i + 1) h' → IsTupOf2 h' s.heap.objs.size x y → h'.objs.size = s.heap.objs.size + 1 →
      (∀ c o, c ≠ z → c ≠ TO → c ≠ i1 → c ≠ i2 → s.heap.get? c = some o → h'.get? c = some o) → Q (some (.ref s.heap.objs.size)) { s with heap := h', toks := tk }) : wpAny (model prog w) A (pyNext (.ref z)) Q E s := by
  have hT : s.TypeIs (.ref z) "zip" := ⟨_, hz, rfl⟩
  unfold pyNext
  have l1 : i < its.size := (Array.getElem?_eq_some_iff.mp hx).1
  have l2 : i < its2.size := (Array.getElem?_eq_some_iff.mp hy).1
  refine wpAny_bind (wpAny_attempt (wpAny_callSpecial?_slot (name := Str.ofString "__next__") hT F.slot_zip_next (wpAny_call_entry F.slot_zip_next hT F.entry_zip_next
    (zipD2_next_item S (Src.draws (A := A.in1) hh p i1 n1 its) (Src.draws (A := A.in1) hh q i2 n2 its2) hz hTI hTO ⟨st1, c1⟩ ⟨st2, c2⟩ l1 l2 fun x1 x2 h' tk e1 e2 b1 b2 b3 b4 b5 b6 b7 => ?_) (F.args_zip_next_1 _))))
  have e1' : its[i]? = some x1 := e1
  have e2' : its2[i]? = some x2 := e2
  rw [hx] at e1'; cases e1'
  rw [hy] at e2'; cases e2'
  exact wpAny_pure (hQ h' tk b1 b2 b3.1 b4.1 b5 b6 b7)
theorem zipG_end {prog : Program} {w : World} {A : Around} {E : Value → Shared → Prop} {s : Shared} {z TI TO i1 i2 : Addr} {p q : Src} {i : Nat} {a1 a2 : Value} {its its2 : Array Value} {Q : Option Value → Shared → Prop} (hh : A.handled = none) (S : ZipSep2 z TI TO i1 i2 [i1, p.ad] [i2, q.ad])
    (n1 : p.ad ≠ i1) (n2 : q.ad ≠ i2) (hz : IsZip s.heap z TI TO .none) (hTI : IsTupOf2 s.heap TI (.ref i1) (.ref i2)) (hTO : IsTupOf2 s.heap TO a1 a2) (st1 : p.it i1 i s.heap) (st2 : q.it i2 i s.heap) (c1 : p.at its s.heap) (c2 : q.at its2 s.heap) (l1 : i ≤ its.size) (l2 : i ≤ its2.size) (le : i = its.size ∨ i = its2.size)
    (hQ : ∀ h' tk, (∀ c o, c ≠ z → c ≠ TO → c ≠ i1 → c ≠ i2 → s.heap.get? c = some o → h'.get? c = some o) → Q none { s with heap := h', toks := tk }) : wpAny (model prog w) A (pyNext (.ref z)) Q E s := by
  have hT : s.TypeIs (.ref z) "zip" := ⟨_, hz, rfl⟩
  unfold pyNext
  refine wpAny_bind (wpAny_attempt (wpAny_callSpecial?_slot (name := Str.ofString "__next__") hT F.slot_zip_next (wpAny_call_entry F.slot_zip_next hT F.entry_zip_next
    (zipD2_next_end S (Src.draws (A := A.in1) hh p i1 n1 its) (Src.draws (A := A.in1) hh q i2 n2 its2) hz hTI hTO ⟨st1, c1⟩ ⟨st2, c2⟩ l1 l2 le fun h' tk e hk he => ?_) (F.args_zip_next_1 _))))
  obtain ⟨o, ho, hc⟩ := he
  refine wpAny_bind (wpAny_isInstance (T := "StopIteration") (b := true) ⟨o, ho, hc⟩ isSubtype_stop ?_)
  exact wpAny_pure (hQ h' tk hk)
theorem turn_zipG {P : Program} {w : World} {K : PySem.W.Frag} {elts : List Expr} {kk : Nat} {tpos : Pos} {p q : Src} {z TI TO i1 i2 : Addr} (D : ZipSep2 z TI TO i1 i2 [i1, p.ad] [i2, q.ad]) (n1 : p.ad ≠ i1) (n2 : q.ad ≠ i2) :
    Turn P w K (.Tuple elts kk tpos) (ItzG K p q) [z, TI, TO, i1, i2] z (fun i h => IsZip h z TI TO .none ∧ IsTupOf2 h TI (.ref i1) (.ref i2) ∧ (∃ x y, IsTupOf2 h TO x y) ∧ p.it i1 i h ∧ q.it i2 i h) where
  mem := by simp
  obj := fun i h st c hc => by
    obtain ⟨hz, hTI, ⟨x, y, hTO⟩, h1, h2⟩ := st
    have e' : c = z ∨ c = TI ∨ c = TO ∨ c = i1 ∨ c = i2 := by simpa using hc
    rcases e' with rfl | rfl | rfl | rfl | rfl
    · exact ⟨_, hz, fun v q => nomatch q⟩
    · exact ⟨_, hTI, fun v q => nomatch q⟩
    · exact ⟨_, hTO, fun v q => nomatch q⟩
    · exact Src.obj h1
    · exact Src.obj h2
  keep := fun i h h' st k => by
    obtain ⟨hz, hTI, ⟨x, y, hTO⟩, h1, h2⟩ := st
    exact ⟨k z (by simp) _ hz, k TI (by simp) _ hTI, ⟨x, y, k TO (by simp) _ hTO⟩, Src.keep h1 fun o e => k i1 (by simp) o e, Src.keep h2 fun o e => k i2 (by simp) o e⟩
  item := by
    intro X hP hw hK hc i pins s σ H E I hf st hg
    subst hP hw hK
    obtain ⟨hz, hTI, ⟨x0, y0, hTO⟩, h1, h2⟩ := st
    obtain ⟨xs, ys, x, y, hqx, hqy, hx, hy⟩ := hg
    obtain ⟨its, rv, c1, _⟩ := Src.of_sq I hqx
    obtain ⟨its2, rv2, c2, _⟩ := Src.of_sq I hqy
    obtain ⟨u, hu, ru⟩ := rv.get hx
    obtain ⟨u2, hu2, ru2⟩ := rv2.get hy
    have hzl : z < s.heap.objs.size := Heap.lt_size hz
    refine zipG_item (I.ok.hd hc) D n1 n2 hz hTI hTO h1 h2 c1 c2 (x := u) (y := u2) (by simpa using hu) (by simpa using hu2) fun h' tk z' TO' h1' h2' hT hsz hk => ?_
    refine ⟨_, rfl, wpAny_letOwnedTupleGo_zip (s := { s with heap := h', toks := tk }) z' fun h'' z'' sb => ?_⟩
    have hT2 : h''.get? s.heap.objs.size = some { cls := .type "tuple", data := .seq #[u, u2] } := (sb.2 _ (Nat.ne_of_gt hzl)).trans hT
    have new : ObjOk X.prog X.w (upd H s.heap.objs.size (.tup [x, y])) h'' s.heap.objs.size (.tup [x, y]) :=
      ⟨by show 2 ≤ sizeLine; decide, [u, u2], .cons ru (.cons ru2 .nil), ⟨_, hT2, rfl, _, rfl⟩⟩
    have I1 : Inv X pins σ (upd H s.heap.objs.size (.tup [x, y])) { s with heap := h'', toks := tk } :=
      I.turnedNew (t' := tk) (ch := [z, TI, TO, i1, i2]) (fun c o hb q => (sb.2 c (fun q' => hb (by simp [q']))).trans (hk c o (fun q' => hb (by simp [q'])) (fun q' => hb (by simp [q'])) (fun q' => hb (by simp [q'])) (fun q' => hb (by simp [q'])) q)) hf (Nat.le_refl _) new
    refine ⟨.ref s.heap.objs.size, _, I1, rfl, ⟨_, x, y, rfl, I.hok.fresh (Nat.le_refl _), rfl, fun l hl => by rw [Src.inj I hl hqx]; exact hx, fun l hl => by rw [Src.inj I hl hqy]; exact hy⟩, ⟨z'', ?_, ⟨u, u2, ?_⟩, ?_, ?_⟩, fun c hcm => ?_⟩
    · exact (sb.2 _ D.TIz).trans (hk _ _ D.TIz D.TITO D.TIi1 D.TIi2 hTI)
    · exact (sb.2 _ D.TOz).trans TO'
    · exact Src.keep h1' fun o q => (sb.2 _ D.zi1.symm).trans q
    · exact Src.keep h2' fun o q => (sb.2 _ D.zi2.symm).trans q
    · have hlt : c < s.heap.objs.size := by
        have e' : c = z ∨ c = TI ∨ c = TO ∨ c = i1 ∨ c = i2 := by simpa using hcm
        rcases e' with rfl | rfl | rfl | rfl | rfl
        · exact hzl
        · exact Heap.lt_size hTI
        · exact Heap.lt_size hTO
        · obtain ⟨o, e, _⟩ := Src.obj h1; exact Heap.lt_size e
        · obtain ⟨o, e, _⟩ := Src.obj h2; exact Heap.lt_size e
      rw [upd_ne (Nat.ne_of_lt hlt)]
      exact (hf c hcm).1
  done := by
    intro X hP hw hK hc i pins s σ H E I hf st hg
    subst hP hw hK
    obtain ⟨hz, hTI, ⟨x0, y0, hTO⟩, h1, h2⟩ := st
    obtain ⟨xs, ys, hqx, hqy, lx, ly, hend⟩ := hg
    obtain ⟨its, rv, c1, _⟩ := Src.of_sq I hqx
    obtain ⟨its2, rv2, c2, _⟩ := Src.of_sq I hqy
    have l1 := rv.length
    have l2 := rv2.length
    exact zipG_end (I.ok.hd hc) D n1 n2 hz hTI hTO h1 h2 c1 c2 (by simp; omega) (by simp; omega) (by simp; omega) fun h' tk hk => ⟨rfl, I.turnedL (t' := tk) (ch := [z, TI, TO, i1, i2]) (fun c o hb q =>
      hk c o (fun q' => hb (by simp [q'])) (fun q' => hb (by simp [q'])) (fun q' => hb (by simp [q'])) (fun q' => hb (by simp [q'])) q) hf⟩
  self := fun A i s Q E st h => wpAny_pyIter_zip st.1 h
def iZipG (K : PySem.W.Frag) (ta : TA) : TI := fun σ H R => ta σ H fun vs H1 => ∃ p q xs ys, vs = [.ref p.ad, .ref q.ad] ∧ Src.sq K H1 p xs ∧ Src.sq K H1 q ys ∧ R (ItzG K p q) H1
theorem pi_zipG {X : Cx} {e e2 : Expr} {ta : TA} {p pos tpos : Pos} {elts : List Expr} {kk : Nat} (hg : Gl X "zip") (hm : X.mg "zip" = none) (ha : PA X [e, e2] ta)
    (hs : starEach [e, e2] X.env = (false, eval e X.env) :: starEach [e2] X.env := by rfl) (hpl : (backTo pos (starEach [e2] X.env)).any (·.1) = false := by rfl) :
    PI X (.Tuple elts kk tpos) (.Call (.Name "zip" p) [e, e2] [] pos) (iZipG X.K ta) := by
  refine ⟨fun pins s σ H R I h => ?_⟩
  refine Call_ (ld_blt I hg hm PyProof.Rows.boot_zip (PyProof.Rows.callWith_type1 (thn (ha.run pos pins s σ H _ I h) fun us s1 ⟨vs, H1, I1, r1, q1⟩ => ?_) hs hpl))
  obtain ⟨p, q, xs, ys, rfl, hqx, hqy, q1⟩ := q1
  obtain ⟨u1, u2, rfl, ra, rb⟩ := vals2 r1
  cases ra
  cases rb
  obtain ⟨its, rv, c1, b1⟩ := Src.of_sq I1 hqx
  obtain ⟨its2, rv2, c2, b2⟩ := Src.of_sq I1 hqy
  refine zip_begins2 (Src.begins p its.toArray) (Src.begins q its2.toArray) c1 c2 fun h' hz hTI hTO h1 h2 hsz hk => wpAny_pyIter_zip hz ?_
  have I2 : Inv X pins σ H1 { s1 with heap := h' } := I1.kept (t' := s1.toks) hk
  have sep : ZipSep2 (s1.heap.objs.size + 4) (s1.heap.objs.size + 2) (s1.heap.objs.size + 3) s1.heap.objs.size (s1.heap.objs.size + 1) [s1.heap.objs.size, p.ad] [s1.heap.objs.size + 1, q.ad] :=
    zip_sep2 (fp1 := [p.ad]) (fp2 := [q.ad]) (fun b hb => by have e : b = p.ad := by simpa using hb
                                                             rw [e]; exact b1) (fun b hb => by have e : b = q.ad := by simpa using hb
                                                                                               rw [e]; exact b2)
  refine ⟨s1.heap.objs.size + 4, [s1.heap.objs.size + 4, s1.heap.objs.size + 2, s1.heap.objs.size + 3, s1.heap.objs.size, s1.heap.objs.size + 1], _, _, H1, rfl, I2, turn_zipG sep (Nat.ne_of_lt b1) (Nat.ne_of_lt (Nat.lt_succ_of_lt b2)), ⟨hz, hTI, ⟨_, _, hTO⟩, Src.start h1, Src.start h2⟩, fun c hc => ?_, q1⟩
  have hle : s1.heap.objs.size ≤ c := by
    have e' : c = s1.heap.objs.size + 4 ∨ c = s1.heap.objs.size + 2 ∨ c = s1.heap.objs.size + 3 ∨ c = s1.heap.objs.size ∨ c = s1.heap.objs.size + 1 := by simpa using hc
    rcases e' with z | z | z | z | z <;> rw [z] <;> first | exact Nat.le_refl _ | exact Nat.le_add_right _ _
  exact I1.fpOk hle (I1.hok.fresh hle)
section
variable {X : Cx} {C : VC} {e : Expr}
theorem jok_zipG {K : PySem.W.Frag} {W : Wd} {p q : Src} {xs ys : List V} {ds es : List D} (h : ∀ H, Same W.F H → p.sq K H xs) (hz : xs.length ≤ sizeLine) (r : RepA K W xs ds) (h' : ∀ H, Same W.F H → q.sq K H ys) (r' : RepA K W ys es) : JOk K (ItzG K p q) W (zipL ds es) where
  len := by unfold zipL; rw [List.length_zipWith, ← r.length]; omega
  go := fun i W' H' l w hi => by
    unfold zipL at hi; rw [List.length_zipWith, ← r.length, ← r'.length] at hi
    have i1 : i < xs.length := by omega
    have i2 : i < ys.length := by omega
    exact ⟨xs, ys, xs[i], ys[i], h _ (l.F.trans w.same), h' _ (l.F.trans w.same), by simp [i1], by simp [i2]⟩
  yld := fun i W' H' x H'' l w hi y => by
    obtain ⟨T, x', y', rfl, nT, rfl, q1, q2⟩ := y
    obtain ⟨d, h1, h2⟩ := r.get (q1 xs (h _ (l.F.trans w.same)))
    obtain ⟨e, h3, h4⟩ := r'.get (q2 ys (h' _ (l.F.trans w.same)))
    refine ⟨W'.add T (.tup [x', y']), .tup [d, e], Step.add w nT, w.add nT, ?_, .tup (.inl upd_same) (by rw [sizeLine_val]; simp only [List.length_cons, List.length_nil]; omega) (.cons ((h2.mono l).mono (Wd.le_add (w.noF nT))) (.cons ((h4.mono l).mono (Wd.le_add (w.noF nT))) .nil))⟩
    unfold zipL
    rw [List.getElem?_zipWith, h1, h3]
  stop := fun W' H' l w => ⟨xs, ys, h _ (l.F.trans w.same), h' _ (l.F.trans w.same), by
    unfold zipL; rw [List.length_zipWith, ← r.length, ← r'.length]; omega, by
    unfold zipL; rw [List.length_zipWith, ← r.length, ← r'.length]; omega, by
    unfold zipL; rw [List.length_zipWith, ← r.length, ← r'.length]; omega⟩
/-- what a value gives to zip -/
theorem src_of {W : Wd} {v : V} {d : D} {ds : List D} (r : Rep C.K W v d) (hd : d = .lst ds ∨ d = .tup ds) : ∃ p xs, v = .ref (Src.ad p) ∧ (∀ H, Same W.F H → p.sq C.K H xs) ∧ xs.length ≤ sizeLine ∧ RepA C.K W xs ds := by
  cases r with
  | lst h z ra =>
    rename_i a xs es
    have e : es = ds := by rcases hd with q | q <;> cases q; rfl
    subst e
    exact ⟨.l a, xs, rfl, fun H s => .inl (.inl (s _ _ h)), z, ra⟩
  | tup h z ra =>
    rename_i a xs es
    have e : es = ds := by rcases hd with q | q <;> cases q; rfl
    subst e
    exact ⟨.t a, xs, rfl, fun H s => h.sq s, z, ra⟩
  | _ => rcases hd with q | q <;> cases q
def asItems : D → Option (List D)
  | .lst ds => some ds
  | .tup ds => some ds
  | _ => none
theorem asItems_or {d : D} {ds : List D} (h : asItems d = some ds) : d = .lst ds ∨ d = .tup ds := by
  cases d with
  | lst es => cases h; exact .inl rfl
  | tup es => cases h; exact .inr rfl
  | _ => cases h
def iZpG (w : WA) : WA := fun ε Q => w ε fun ds => match ds with
  | [d, e] => (match asItems d, asItems e with | some ds, some es => Q (zipL ds es) | _, _ => False)
  | _ => False
theorem vi_zipG {e2 : Expr} {elts : List Expr} {kk : Nat} {p pos tpos : Pos} {w : WA} (hK : C.K = X.K) (hg : Gl X "zip") (hm : X.mg "zip" = none) (ha : VA X C [e, e2] w) (hs : starEach [e, e2] X.env = (false, eval e X.env) :: starEach [e2] X.env := by rfl) (hpl : (backTo pos (starEach [e2] X.env)).any (·.1) = false := by rfl) : VI X C (.Tuple elts kk tpos) (.Call (.Name "zip" p) [e, e2] [] pos) (iZpG w) :=
  PI.imp (pi_zipG hg hm ha hs hpl) fun σ H R q => by
  obtain ⟨W, ε, Q, c, hw, k⟩ := q
  refine ⟨W, ε, _, c, hw, fun ds vs W' H' s w' r q => ?_⟩
  cases r with
  | nil => exact (show False from q).elim
  | cons r1 r =>
    cases r with
    | nil => exact (show False from q).elim
    | cons r2 r =>
      cases r with
      | cons _ _ => exact (show False from q).elim
      | nil =>
        rename_i v d u d2
        have q' : (match asItems d, asItems d2 with | some ds, some es => Q (zipL ds es) | _, _ => False) := q
        cases h1 : asItems d with
        | none => rw [h1] at q'; exact q'.elim
        | some es1 =>
          cases h2 : asItems d2 with
          | none => rw [h1, h2] at q'; exact q'.elim
          | some es2 =>
            rw [h1, h2] at q'
            obtain ⟨p1, xs, rfl, a1, a2, a3⟩ := src_of r1 (asItems_or h1)
            obtain ⟨p2, ys, rfl, b1, b2, b3⟩ := src_of r2 (asItems_or h2)
            have a1' := a1 _ w'.same
            have b1' := b1 _ w'.same
            have kk := k _ _ W' H' s w' (jok_zipG a1 a2 a3 b1 b3) q'
            rw [hK] at a1' b1' kk
            exact ⟨p1, p2, xs, ys, rfl, a1', b1', kk⟩
end
end VL


set_option Elab.async false
set_option linter.all false
set_option maxRecDepth 100000
set_option maxHeartbeats 4000000
namespace VL
open PySem PySem.Spec PyProof.Rows L2
theorem compL_mapD {g : WG} {t : WT} {e : WE} {R : List D → Prop} {ε : Ev} (f : D → D) : ∀ (ds acc : List D)
    (_ : ∀ d ∈ ds, ∀ (K : D → Prop) (K0 : Prop), K (f d) → g d ε fun ε' => t ε' fun b => if b = true then e ε' K else K0) (_ : R (acc ++ ds.map f)), compL g t e R ε ds acc := fun ds acc h1 h2 => by
  have := compL_map (g := g) (t := t) (e := e) (R := R) (ε := ε) (fun d : D => d) f ds acc h1 h2
  rwa [List.map_id'] at this
end VL


set_option Elab.async false
set_option linter.all false
set_option maxRecDepth 100000
set_option maxHeartbeats 4000000
namespace VL
open PySem PySem.Spec PyProof.Rows L2
/-! ### readings, opened piece by piece: nothing is taken apart but what is known -/
def mBl (d : D) (k : Bool → Prop) : Prop := match d with
  | .bl b => k b
  | _ => False
def mInt (d : D) (k : Int → Prop) : Prop := match d with
  | .int i => k i
  | _ => False
def mLs (d : D) (k : List D → Prop) : Prop := match d with
  | .lst ds => k ds
  | _ => False
def mTp (d : D) (k : List D → Prop) : Prop := match d with
  | .tup ds => k ds
  | _ => False
def mO {α : Type} (o : Option α) (k : α → Prop) : Prop := match o with
  | some x => k x
  | none => False
def mV (o : Option S) (k : D → Prop) : Prop := match o with
  | some (.val d) => k d
  | _ => False
def mOw (o : Option S) (k : List D → Prop) (z : Prop) : Prop := match o with
  | some (.own ds) => k ds
  | _ => z
def m1 (ds : List D) (k : D → Prop) : Prop := match ds with
  | [d] => k d
  | _ => False
def m2 (ds : List D) (k : D → D → Prop) : Prop := match ds with
  | [d, e] => k d e
  | _ => False
def m3 (ds : List D) (k : D → D → D → Prop) : Prop := match ds with
  | [d, e, f] => k d e f
  | _ => False
section
variable {k : Bool → Prop} {ki : Int → Prop} {kl : List D → Prop} {kd R : D → Prop} {z : Prop} {b : Bool} {i j : Int} {s t : Str} {ds es : List D} {d e f : D} {o : Option S}
theorem mBl_bl : mBl (.bl b) k = k b := rfl
theorem mInt_int : mInt (.int i) ki = ki i := rfl
theorem mLs_lst : mLs (.lst ds) kl = kl ds := rfl
theorem mTp_tup : mTp (.tup ds) kl = kl ds := rfl
theorem mO_some {α : Type} {x : α} {k : α → Prop} : mO (some x) k = k x := rfl
theorem mV_val : mV (some (.val d)) kd = kd d := rfl
theorem mOw_own : mOw (some (.own ds)) kl z = kl ds := rfl
theorem mOw_val : mOw (some (.val d)) kl z = z := rfl
theorem mOw_un : mOw (some .un) kl z = z := rfl
theorem m1_1 : m1 [d] kd = kd d := rfl
theorem m2_2 {k : D → D → Prop} : m2 [d, e] k = k d e := rfl
theorem m3_3 {k : D → D → D → Prop} : m3 [d, e, f] k = k d e f := rfl
end
theorem mO_asInts {α : Type} (f : α → Int) (xs : List α) (k : List Int → Prop) : mO (asInts (xs.map fun x => .int (f x))) k = k (xs.map f) := by rw [asInts_map]; rfl
theorem mO_asInts' (xs : List Int) (k : List Int → Prop) : mO (asInts (xs.map D.int)) k = k xs := by rw [asInts_map']; rfl
theorem mO_asBls {α : Type} (f : α → Bool) (xs : List α) (k : List Bool → Prop) : mO (asBls (xs.map fun x => .bl (f x))) k = k (xs.map f) := by rw [asBls_map]; rfl
section
variable {ε : Ev} {R : D → Prop} {RL : List D → Prop} {RB : Bool → Prop} {V : VEnds} {i : Nat} {a b c w : WE} {wa t : WA} {lo hi : WO}
theorem rd_var : eVar i ε R = mV ε[i]? R := rfl
theorem rd_frz : wFrz i u V ε = mOw ε[i]? (fun ds => u V (ε.set i (.val (.lst ds)))) (u V ε) := rfl
theorem rd_app : wApp i w V ε = mOw ε[i]? (fun ds => w ε fun d => ds.length < sizeLine ∧ V.nx (ε.set i (.own (ds ++ [d])))) False := rfl
theorem rd_ext : wExt i w V ε = mOw ε[i]? (fun ds => w ε fun d => mLs d fun es => ds.length + es.length ≤ sizeLine ∧ V.nx (ε.set i (.own (ds ++ es)))) False := rfl
theorem rd_retO : wRetO i V ε = mOw ε[i]? V.rn False := rfl
theorem rd_par {j : Nat} : wPar i j t V ε = t ε fun ds => m2 ds fun d d' => V.nx ((ε.set i (.val d)).set j (.val d')) := rfl
theorem rd_par3 {j l : Nat} : wPar3 i j l t V ε = t ε fun ds => m3 ds fun d d' d'' => V.nx (((ε.set i (.val d)).set j (.val d')).set l (.val d'')) := rfl
theorem rd_T : eT w ε RB = w ε fun d => mBl d RB := rfl
theorem rd_chain {g g' : D → D → (D → Prop) → Prop} : eChain g g' a b c ε R = a ε fun x => b ε fun y => g x y fun z => mBl z fun k => if k = true then c ε fun w => g' y w R else R (.bl false) := rfl
theorem rd_and : eAnd a b ε R = a ε fun x => mBl x fun k => if k = true then b ε R else R (.bl false) := rfl
theorem rd_or : eOr a b ε R = a ε fun x => mBl x fun k => if k = true then R (.bl true) else b ε R := rfl
theorem rd_not : eNot a ε R = a ε fun x => mBl x fun k => R (.bl (!k)) := rfl
theorem rd_bor : eBor i w ε R = mOw ε[i]? (fun ds => w (ε.set i (.val (.lst ds))) fun d => d.scalar = true ∧ R d) (w ε R) := rfl
theorem rd_tbor {t : WT} : tBor i t ε RB = mOw ε[i]? (fun ds => t (ε.set i (.val (.lst ds))) RB) (t ε RB) := rfl
def gRg1 (ds : List D) (Q : List D → Prop) : Prop := m1 ds fun d => mInt d fun j => -(2 ^ 62) ≤ j ∧ j ≤ 16777216 ∧ Q (rangeL 0 j)
def gRg2 (ds : List D) (Q : List D → Prop) : Prop := m2 ds fun d e => mInt d fun i => mInt e fun j => -(2 ^ 60) ≤ i ∧ i < 2 ^ 60 ∧ -(2 ^ 60) ≤ j ∧ j < 2 ^ 60 ∧ j - i ≤ 16777216 ∧ Q (rangeL i j)
theorem rd_rg1 : iRg1 wa ε RL = wa ε fun ds => gRg1 ds RL := by
  refine congrArg (wa ε) (funext fun ds => ?_)
  match ds with
  | [] => rfl
  | [d] => cases d <;> rfl
  | d :: _ :: _ => cases d <;> rfl
theorem rd_rg2 : iRg2 wa ε RL = wa ε fun ds => gRg2 ds RL := by
  refine congrArg (wa ε) (funext fun ds => ?_)
  match ds with
  | [] => rfl
  | [d] => cases d <;> rfl
  | [d, e] => cases d <;> cases e <;> rfl
  | d :: e :: _ :: _ => cases d <;> cases e <;> rfl
theorem gRg1_int {j : Int} : gRg1 [.int j] RL = (-(2 ^ 62) ≤ j ∧ j ≤ 16777216 ∧ RL (rangeL 0 j)) := rfl
theorem gRg2_int {i j : Int} : gRg2 [.int i, .int j] RL = (-(2 ^ 60) ≤ i ∧ i < 2 ^ 60 ∧ -(2 ^ 60) ≤ j ∧ j < 2 ^ 60 ∧ j - i ≤ 16777216 ∧ RL (rangeL i j)) := rfl
def gEn (ds : List D) (Q : List D → Prop) : Prop := m1 ds fun d => mLs d fun es => Q (enumL es)
theorem rd_en : iEn wa ε RL = wa ε fun ds => gEn ds RL := by
  refine congrArg (wa ε) (funext fun ds => ?_)
  match ds with
  | [] => rfl
  | [d] => cases d <;> rfl
  | d :: _ :: _ => cases d <;> rfl
theorem gEn_lst {ds : List D} : gEn [.lst ds] RL = RL (enumL ds) := rfl
def gZp (ds : List D) (Q : List D → Prop) : Prop := m2 ds fun d e => mO (asItems d) fun ds => mO (asItems e) fun es => Q (zipL ds es)
theorem rd_zp : iZpG wa ε RL = wa ε fun ds => gZp ds RL := by
  refine congrArg (wa ε) (funext fun ds => ?_)
  match ds with
  | [] => rfl
  | [d] => rfl
  | [d, e] =>
    unfold gZp m2 mO
    dsimp only
    cases asItems d <;> cases asItems e <;> rfl
  | _ :: _ :: _ :: _ => rfl
theorem gZp_2 {d e : D} : gZp [d, e] RL = mO (asItems d) fun ds => mO (asItems e) fun es => RL (zipL ds es) := rfl
theorem asItems_lst {ds : List D} : asItems (.lst ds) = some ds := rfl
theorem asItems_tup {ds : List D} : asItems (.tup ds) = some ds := rfl
def gSlN (d : D) (l h : Option Int) (R : List D → Prop) : Prop := mLs d fun ds => R (cutL ds l h)
def gSl (d : D) (l h : Option Int) (R : D → Prop) : Prop := match d with
  | .lst ds => R (.lst (cutL ds l h))
  | .tup ds => R (.tup (cutL ds l h))
  | .str s => s.length ≤ sizeLine ∧ R (.str (cutS s l h))
  | _ => False
theorem rd_some {RO : Option Int → Prop} : oSome w ε RO = w ε fun d => mInt d fun i => RO (some i) := rfl
theorem rd_slN : nSl w lo hi ε RL = w ε fun d => lo ε fun l => hi ε fun h => gSlN d l h RL := rfl
theorem rd_slO : nSlO i lo hi ε RL = mOw ε[i]? (fun ds => lo ε fun l => hi ε fun h => RL (cutL ds l h)) False := rfl
theorem rd_sl : eSl w lo hi ε R = w ε fun d => lo ε fun l => hi ε fun h => gSl d l h R := rfl
theorem gSlN_lst {ds : List D} {l h : Option Int} : gSlN (.lst ds) l h RL = RL (cutL ds l h) := rfl
theorem gSl_lst {ds : List D} {l h : Option Int} : gSl (.lst ds) l h R = R (.lst (cutL ds l h)) := rfl
theorem gSl_tup {ds : List D} {l h : Option Int} : gSl (.tup ds) l h R = R (.tup (cutL ds l h)) := rfl
theorem gSl_str {s : Str} {l h : Option Int} : gSl (.str s) l h R = (s.length ≤ sizeLine ∧ R (.str (cutS s l h))) := rfl
theorem rd_rev : nRev w ε RL = w ε fun d => mLs d fun ds => RL ds.reverse := rfl
theorem rd_cat : nCat a b ε RL = a ε fun x => b ε fun y => mLs x fun xs => mLs y fun ys => xs.length + ys.length ≤ sizeLine ∧ RL (xs ++ ys) := by
  refine congrArg (a ε) (funext fun x => congrArg (b ε) (funext fun y => ?_))
  cases x <;> cases y <;> rfl
theorem rd_rep : nRep a b ε RL = a ε fun x => b ε fun y => mLs x fun xs => mInt y fun j => (-1000000 ≤ j ∧ j ≤ 16777216 ∧ xs.length * j.toNat ≤ sizeLine) ∧ RL (List.replicate j.toNat xs).flatten := by
  refine congrArg (a ε) (funext fun x => congrArg (b ε) (funext fun y => ?_))
  cases x <;> cases y <;> rfl
theorem rd_ixO : eIxO i w ε R = mOw ε[i]? (fun ds => w ε fun y => mInt y fun j => mO (L2.atI ds j) R) False := by
  unfold eIxO mOw
  cases ε[i]? with
  | none => rfl
  | some s0 =>
    cases s0 with
    | own ds =>
      refine congrArg (w ε) (funext fun y => ?_)
      cases y <;> first | rfl | (unfold mInt mO; rename_i j; cases hh : L2.atI ds j <;> simp [hh])
    | val d => rfl
    | un => rfl
def gTp' (n : Nat) (t : WGs) : WG := fun d ε R => mTp d fun ds => ds.length = n ∧ t ds ε R
theorem rd_tp {n : Nat} {t : WGs} {d : D} {R : Ev → Prop} : gTp n t d ε R = mTp d fun ds => ds.length = n ∧ t ds ε R := rfl
theorem gsCons_cons {t : WG} {u : WGs} {d : D} {r : List D} {R : Ev → Prop} : gsCons t u (d :: r) ε R = t d ε fun ε' => u r ε' R := rfl
theorem gsNil_nil {R : Ev → Prop} : gsNil [] ε R = R ε := by simp [gsNil]
end
section
variable {R : D → Prop} {RL : List D → Prop} {RB : Bool → Prop} {i j : Int} {s t : Str} {ds es : List D} {d e : D} {ns : List Int} {b : Bool}
theorem gAdd_int : gAdd (.int i) (.int j) R = R (.int (i + j)) := rfl
theorem gAdd_str : gAdd (.str s) (.str t) R = (s.length + t.length ≤ sizeLine ∧ R (.str (s ++ t))) := rfl
theorem gAdd_lst : gAdd (.lst ds) (.lst es) R = (ds.length + es.length ≤ sizeLine ∧ R (.lst (ds ++ es))) := rfl
theorem gAdd_tup : gAdd (.tup ds) (.tup es) R = (ds.length + es.length ≤ sizeLine ∧ R (.tup (ds ++ es))) := rfl
theorem gSub_int : VL.gSub (.int i) (.int j) R = R (.int (i - j)) := rfl
theorem gMod_int : gMod (.int i) (.int j) R = (0 < j ∧ R (.int (i % j))) := rfl
theorem gFdiv_int : gFdiv (.int i) (.int j) R = ((0 < j ∧ j < 1073741824) ∧ R (.int (i / j))) := rfl
theorem gPow_int : gPow (.int i) (.int j) R = ((0 ≤ j ∧ j ≤ 1000000 ∧ i.natAbs < 2 ^ 64) ∧ R (.int (i ^ j.toNat))) := rfl
theorem gMul_int : gMul (.int i) (.int j) R = (((-18446744073709551616 < i ∧ i < 18446744073709551616) ∨ (-18446744073709551616 < j ∧ j < 18446744073709551616)) ∧ R (.int (i * j))) := rfl
theorem gMul_lst : gMul (.lst ds) (.int j) R = ((-1000000 ≤ j ∧ j ≤ 16777216 ∧ ds.length * j.toNat ≤ sizeLine) ∧ R (.lst (List.replicate j.toNat ds).flatten)) := rfl
theorem gNeg_int : gNeg (.int i) R = R (.int (-i)) := rfl
theorem gLt_int : gLt (.int i) (.int j) R = R (.bl (decide (i < j))) := rfl
theorem gLe_int : gLe (.int i) (.int j) R = R (.bl (decide (i ≤ j))) := rfl
theorem gGt_int : gGt (.int i) (.int j) R = R (.bl (decide (j < i))) := rfl
theorem gGe_int : gGe (.int i) (.int j) R = R (.bl (decide (j ≤ i))) := rfl
theorem gEq_int : gEq (.int i) (.int j) R = R (.bl (decide (i = j))) := rfl
theorem gEq_str : gEq (.str s) (.str t) R = R (.bl (decide (s = t))) := rfl
theorem gEq_lst : gEq (.lst ds) (.lst es) R = ((D.lst ds).cmp = true ∧ (D.lst es).cmp = true ∧ R (.bl ((D.lst ds).eqv (.lst es)))) := rfl
theorem gEq_tup : gEq (.tup ds) (.tup es) R = ((D.tup ds).cmp = true ∧ (D.tup es).cmp = true ∧ R (.bl ((D.tup ds).eqv (.tup es)))) := rfl
theorem gNe_int : gNe (.int i) (.int j) R = R (.bl (!decide (i = j))) := rfl
theorem gNe_str : gNe (.str s) (.str t) R = R (.bl (!decide (s = t))) := rfl
theorem gNe_lst : gNe (.lst ds) (.lst es) R = ((D.lst ds).cmp = true ∧ (D.lst es).cmp = true ∧ R (.bl (!(D.lst ds).eqv (.lst es)))) := rfl
theorem gNe_tup : gNe (.tup ds) (.tup es) R = ((D.tup ds).cmp = true ∧ (D.tup es).cmp = true ∧ R (.bl (!(D.tup ds).eqv (.tup es)))) := rfl
theorem gIsN_ : gIsN d .non R = (d.known = true ∧ R (.bl d.isNon)) := rfl
theorem gNotN_ : gNotN d .non R = (d.known = true ∧ R (.bl (!d.isNon))) := rfl
theorem gIn_lst {neg : Bool} : gIn neg d (.lst ds) R = (d.cmp = true ∧ (D.lst ds).cmp = true ∧ R (.bl (if neg then !(ds.any fun z => z.eqv d) else ds.any fun z => z.eqv d))) := rfl
theorem gIn_tup {neg : Bool} : gIn neg d (.tup ds) R = (d.scalar = true ∧ ds.all D.scalar = true ∧ R (.bl (if neg then !(ds.any fun z => z.eqv d) else ds.any fun z => z.eqv d))) := rfl
theorem gIx_lst : gIx (.lst ds) (.int i) R = mO (L2.atI ds i) R := by
  unfold gIx mO
  cases hh : L2.atI ds i <;> simp [hh]
theorem gIx_tup : gIx (.tup ds) (.int i) R = mO (L2.atI ds i) R := by
  unfold gIx mO
  cases hh : L2.atI ds i <;> simp [hh]
theorem gIx_scr : gIx (.scr ns) (.int i) R = mO (L2.atI ns i) fun n => R (.int n) := by
  unfold gIx mO
  cases hh : L2.atI ns i <;> simp [hh]
theorem gIx_str : gIx (.str s) (.int i) R = (s.length ≤ sizeLine ∧ mO (L2.atI s.cps.toList i) fun c => R (.str ⟨#[c]⟩)) := by
  unfold gIx mO
  cases hh : L2.atI s.cps.toList i <;> simp [hh]
theorem gLen_lst : gLen [.lst ds] R = R (.int ds.length) := rfl
theorem gLen_tup : gLen [.tup ds] R = R (.int ds.length) := rfl
theorem gLen_scr : gLen [.scr ns] R = R (.int ns.length) := rfl
theorem gLen_str : gLen [.str s] R = (s.length ≤ sizeLine ∧ R (.int s.length)) := rfl
theorem gSum_lst : gSum [.lst ds] R = mO (asInts ds) fun ns => R (.int ns.sum) := by
  unfold gSum mO
  cases hh : asInts ds <;> simp [hh]
theorem gAll_lst : gAll [.lst ds] R = mO (asBls ds) fun bs => R (.bl (bs.all id)) := by
  unfold gAll mO
  cases hh : asBls ds <;> simp [hh]
theorem gAny_lst : gAny [.lst ds] R = mO (asBls ds) fun bs => R (.bl (bs.any id)) := by
  unfold gAny mO
  cases hh : asBls ds <;> simp [hh]
theorem gAbs_int : gAbs [.int i] R = R (.int (if i < 0 then -i else i)) := rfl
theorem gMax2_int : gMax2 [.int i, .int j] R = R (.int (if j > i then j else i)) := rfl
theorem gMin2_int : gMin2 [.int i, .int j] R = R (.int (if j < i then j else i)) := rfl
theorem gInt_int : gInt [.int i] R = R (.int i) := rfl
theorem gInt_bl : gInt [.bl b] R = R (.int (if b then 1 else 0)) := rfl
theorem gStrI_int : gStrI [.int i] R = (i.natAbs.log2 < 1920 ∧ R (.str (toString i))) := rfl
theorem nList_lst : nList [.lst ds] RL = RL ds := rfl
theorem nList_tup : nList [.tup ds] RL = RL ds := rfl
theorem gTuple_lst : gTuple [.lst ds] R = R (.tup ds) := rfl
theorem gTuple_tup : gTuple [.tup ds] R = R (.tup ds) := rfl
theorem gIsi_ty {c : String} : gIsi [d, .raw (.ty c)] R = mO d.ty fun t => okC c = true ∧ R (.bl (isiB t c)) := by
  unfold gIsi mO
  dsimp only
  cases d.ty <;> rfl
theorem gIsi_tup {cs : List D} : gIsi [d, .tup cs] R = mO d.ty fun t => mO (asTys cs) fun ns => ns.all okC = true ∧ R (.bl (ns.any fun c => isiB t c)) := by
  unfold gIsi mO
  dsimp only
  cases d.ty <;> cases asTys cs <;> rfl
theorem gRepr_1 : gRepr [d] R = (d.okc 20 ∧ d.okr ∧ d.wid ≤ 16777216 ∧ R (.str d.shown)) := rfl
theorem gSq_lst : gSq (.lst ds) RL = RL ds := rfl
theorem gSq_tup : gSq (.tup ds) RL = RL ds := rfl
theorem gSq_str : gSq (.str s) RL = (s.cps.toList.length ≤ sizeLine ∧ RL (s.cps.toList.map fun c => .str ⟨#[c]⟩)) := rfl
theorem gTru_non : gTru .non RB = RB false := rfl
theorem gTru_bl : gTru (.bl b) RB = RB b := rfl
theorem gTru_int : gTru (.int i) RB = RB (i != 0) := rfl
theorem gTru_lst : gTru (.lst ds) RB = RB (!ds.isEmpty) := rfl
theorem iSq_ {w : WE} {ε : Ev} : iSq w ε RL = w ε fun d => gSq d RL := rfl
/-- a list or a tuple of whole numbers -/
def SeqI (d : D) (ns : List Int) : Prop := d = .lst (ns.map D.int) ∨ d = .tup (ns.map D.int)
theorem SeqI.len (h : SeqI d ns) : gLen [d] R = R (.int ns.length) := by
  rcases h with rfl | rfl
  · rw [gLen_lst, List.length_map]
  · rw [gLen_tup, List.length_map]
theorem SeqI.sq (h : SeqI d ns) : gSq d RL = RL (ns.map D.int) := by rcases h with rfl | rfl <;> rfl
theorem SeqI.items (h : SeqI d ns) : asItems d = some (ns.map D.int) := by rcases h with rfl | rfl <;> rfl
theorem SeqI.list (h : SeqI d ns) : nList [d] RL = RL (ns.map D.int) := by rcases h with rfl | rfl <;> rfl
theorem SeqI.tuple (h : SeqI d ns) : gTuple [d] R = R (.tup (ns.map D.int)) := by rcases h with rfl | rfl <;> rfl
theorem SeqI.ty (h : SeqI d ns) : d.ty ≠ none := by rcases h with rfl | rfl <;> simp [D.ty]
theorem seqI_lst : SeqI (.lst (ns.map D.int)) ns := .inl rfl
theorem seqI_tup : SeqI (.tup (ns.map D.int)) ns := .inr rfl
end
end VL


set_option Elab.async false
set_option linter.all false
set_option maxRecDepth 100000
set_option maxHeartbeats 4000000
namespace VL
open PySem PySem.Spec PyProof.Rows L2
section
variable {X : Cx} {C : VC} {e : Expr} {es : List Expr}

/-! ### pots -/
def gIxP (x y : D) (R : D → Prop) : Prop := match x, y with
  | .pot, .int i => (i = 0 ∧ ∀ n : Int, 0 ≤ n → R (.int n)) ∨ (i = 1 ∧ ∀ n : Int, 0 ≤ n → n < 2147483648 → R (.int n))
  | _, _ => False
theorem vr_ixP : VR2 C (rIx X.K) gIxP := by
  intro W H x y dx dy R Q w rx ry g k
  cases rx with
  | pot p =>
    cases ry with
    | int i =>
      obtain ⟨_, o, e, m, n, rfl, h1, h2, h3⟩ := w.pot _ p
      rcases g with ⟨rfl, g⟩ | ⟨rfl, g⟩
      · exact .inl ⟨_, _, _, _, rfl, rfl, .inl (.inl e), rfl, k _ _ W H .refl w (.int m) (g m h1)⟩
      · exact .inl ⟨_, _, _, _, rfl, rfl, .inl (.inl e), rfl, k _ _ W H .refl w (.int n) (g n h2 h3)⟩
    | _ => exact g.elim
  | _ => exact (show False from by cases ry <;> exact g).elim
theorem ve_ixP {a b : Expr} {pos : Pos} {wa wb : WE} (ha : VE X C a wa) (hb : VE X C b wb) (hs : PlainIx b) : VE X C (.Subscript a b pos) (e2 gIxP wa wb) := PE.imp (pe_ix ix_seq ha hb hs) fun _ _ _ q => lift_t2 vr_ixP q
theorem gIxP_0 {R : D → Prop} : gIxP .pot (.int 0) R ↔ ∀ n : Int, 0 ≤ n → R (.int n) := by simp [gIxP]
theorem gIxP_1 {R : D → Prop} : gIxP .pot (.int 1) R ↔ ∀ n : Int, 0 ≤ n → n < 2147483648 → R (.int n) := by simp [gIxP]
/-- what is handed back is a pot -/
theorem m2_ints {ds : List D} {k : Int → Int → Prop} (h : m2 ds fun d e => mInt d fun i => mInt e fun j => k i j) : ∃ i j, ds = [.int i, .int j] ∧ k i j := by
  match ds, h with
  | [d, e], h =>
    cases d with
    | int i => cases e with
      | int j => exact ⟨i, j, rfl, h⟩
      | _ => exact (show False from h).elim
    | _ => exact (show False from h).elim
  | [], h => exact (show False from h).elim
  | [_], h => exact (show False from h).elim
  | _ :: _ :: _ :: _, h => exact (show False from h).elim
def wRetP (w : WA) : WS := fun V ε => w ε fun ds => m2 ds fun d e => mInt d fun i => mInt e fun j => (0 ≤ i ∧ 0 ≤ j ∧ j < 2147483648) ∧ V.rt .pot
theorem WOk.pots {W : Wd} {H : Hp} (w : WOk W H) {a : Addr} {i j : Int} (h : H a = some (.lst [.int i, .int j])) (hF : W.F a = none) (h1 : 0 ≤ i) (h2 : 0 ≤ j) (h3 : j < 2147483648) : WOk ⟨W.F, fun b => W.P b ∨ b = a⟩ H where
  same := w.same
  pot := fun b q => by
    rcases q with q | rfl
    · exact w.pot b q
    · exact ⟨hF, _, h, _, _, rfl, h1, h2, h3⟩
theorem repA_ints2 {K : PySem.W.Frag} {W : Wd} {xs : List V} {i j : Int} (r : RepA K W xs [.int i, .int j]) : xs = [.int i, .int j] := by
  cases r with
  | cons r1 r =>
    cases r with
    | cons r2 r =>
      cases r
      cases r1; cases r2; rfl
theorem vs_retP {w : WA} {pos : Pos} (he : VN X C e w) : VS X C (.Return (some e) pos) (wRetP w) := PS.imp (ps_ret he) fun D' σ H q => by
  obtain ⟨W, ε, V, c, hw, k⟩ := q
  refine ⟨W, ε, _, c, hw, fun ds a xs W' H' s w' h1 h2 h3 h4 h5 h6 q => ?_⟩
  obtain ⟨i, j, rfl, ⟨p1, p2, p3⟩, q⟩ := m2_ints q
  · have e := repA_ints2 h2
    subst e
    refine k.rt (.ref a) .pot ⟨W'.F, fun b => W'.P b ∨ b = a⟩ H' ⟨s.le.F, fun b p => .inl (s.le.P b p)⟩ (c.st.trans ⟨⟨s.le.F, fun b p => .inl (s.le.P b p)⟩, s.keep, s.newF, fun b p => ?_, s.there⟩) (w'.pots h1 h4 p1 p2 p3) (.pot (.inr rfl)) q
    rcases p with p | rfl
    · exact s.newP b p
    · exact .inr h6

/-! ### targets that write -/
def liftH (C : VC) (g : WG) : TG := fun v σ H Q => ∃ W ε d R, COk C W H ε σ ∧ Rep C.K W v d ∧ g d ε R ∧ ∀ ε' σ' W' H', W.le W' → COk C W' H' ε' σ' → R ε' → Q σ' H'
def liftHs (C : VC) (g : WGs) : TGs := fun vs σ H Q => ∃ W ε ds R, COk C W H ε σ ∧ RepA C.K W vs ds ∧ g ds ε R ∧ ∀ ε' σ' W' H', W.le W' → COk C W' H' ε' σ' → R ε' → Q σ' H'
abbrev VH (X : Cx) (C : VC) (e : Expr) (g : WG) : Prop := PG X e (liftH C g)
abbrev VHs (X : Cx) (C : VC) (es : List Expr) (g : WGs) : Prop := PGs X es (liftHs C g)
theorem vh_of {js : List Nat} {g : WG} (h : VG X C js e g) : VH X C e g := PG.imp h fun v σ H Q q => by
  obtain ⟨W, ε, d, R, c, r, hw, k⟩ := q
  exact ⟨W, ε, d, R, c, r, hw, fun ε' σ' c' _ q => k ε' σ' W H .refl c' q⟩
theorem vhs_nil : VHs X C [] gsNil := PGs.imp pgs_nil fun vs σ H Q q => by
  obtain ⟨W, ε, ds, R, c, r, hw, k⟩ := q
  obtain ⟨rfl, hw⟩ := hw
  cases r
  exact ⟨rfl, k ε σ W H .refl c hw⟩
theorem vhs_cons {es : List Expr} {t : WG} {u : WGs} (h1 : VH X C e t) (h2 : VHs X C es u)
    (hs : (assignEach (e :: es) X.env).map (·.2) = assign e X.env :: (assignEach es X.env).map (·.2) := by rfl) : VHs X C (e :: es) (gsCons t u) := PGs.imp (pgs_cons h1 h2 hs) fun vs σ H Q q => by
  obtain ⟨W, ε, ds, R, c, r, hw, k⟩ := q
  cases r with
  | nil => exact hw.elim
  | cons r rr =>
    refine ⟨_, _, rfl, W, ε, _, _, c, r, hw, fun ε' σ' W' H' l c' q => ⟨W', ε', _, R, c', rr.mono l, q, fun ε2 σ2 W2 H2 l2 c2 q2 => ?_⟩⟩
    exact k ε2 σ2 W2 H2 (l.trans l2) c2 q2
theorem vh_tup {es : List Expr} {kk : Nat} {pos : Pos} {t : WGs} {n : Nat} (hK : C.K = X.K) (hc : X.calm = true) (h : VHs X C es t)
    (hn : (assignEach es X.env).length = n := by rfl) (hst : (assignEach es X.env).findIdx? (·.1) = none := by rfl) : VH X C (.Tuple es kk pos) (gTp n t) := PG.imp (pg_tup hc h hn hst) fun v σ H Q q => by
  obtain ⟨W, ε, d, R, c, r, hw, k⟩ := q
  cases r with
  | tup hs hz hr =>
    obtain ⟨h1, h2⟩ := hw
    exact ⟨_, _, rfl, hK ▸ hs.sq c.w.same, by rw [hr.length]; exact h1, W, ε, _, R, c, hr, h2, k⟩
  | _ => exact hw.elim
/-- o[i] = .., o a pot -/
def gPut (o i : WE) : WG := fun d ε R => o ε fun x => i ε fun y => x = .pot ∧ mInt d fun n => ((y = .int 0 ∧ 0 ≤ n) ∨ (y = .int 1 ∧ 0 ≤ n ∧ n < 2147483648)) ∧ R ε
theorem COk.pot {W : Wd} {H : Hp} {ε : Ev} {σ : St} {a : Addr} {o : HO} (c : COk C W H ε σ) (p : W.P a) (z : PotOk o) : COk C W (upd H a o) ε σ := by
  obtain ⟨q1, o0, q2, _⟩ := c.w.pot a p
  refine ⟨⟨fun b x e => ?_, fun b q => ?_⟩, ⟨c.st.le, fun b x e n => ?_, c.st.newF, c.st.newP, fun b x e => ?_⟩, ⟨c.e.len, c.e.val, fun i ds h => ?_, c.e.ne⟩⟩
  · rw [upd_ne (ne_of_none e q1)]; exact c.w.same b x e
  · obtain ⟨e, o', e', z'⟩ := c.w.pot b q
    by_cases hb : b = a
    · subst hb; exact ⟨e, o, upd_same, z⟩
    · exact ⟨e, o', by rw [upd_ne hb]; exact e', z'⟩
  · have hb : b ≠ a := by
      rintro rfl
      rcases c.st.newP b p with z' | z'
      · exact n z'
      · rw [e] at z'; cases z'
    rw [upd_ne hb]; exact c.st.keep b x e n
  · by_cases hb : b = a
    · subst hb; exact ⟨o, upd_same⟩
    · rw [upd_ne hb]; exact c.st.there b x e
  · obtain ⟨b, xs, h1, h2, h3, h4, h5, h6, h7⟩ := c.e.own i ds h
    exact ⟨b, xs, h1, by rw [upd_ne (by rintro rfl; exact h6 p)]; exact h2, h3, h4, h5, h6, h7⟩
theorem vh_put {o i : Expr} {pos : Pos} {wo wi : WE} (ho : VE X C o wo) (hi : VE X C i wi) (ha : ∀ v, assign (.Subscript o i pos) X.env v = (do
      let ov ← holding [v] (eval o X.env)
      let iv ← holding [v, ov] (eval i X.env)
      standAt pos
      holding [v, ov, iv] (setItem ov iv v)
      release [v, ov, iv] []) := by intro _; rfl) : VH X C (.Subscript o i pos) (gPut wo wi) := PG.imp (pg_sub ho hi set_list ha) fun v σ H Q q => by
  obtain ⟨W, ε, d, R, c, r, hw, k⟩ := q
  refine ⟨W, ε, _, c, hw, fun x vo W1 H1 s1 w1 rx q => ⟨W1, ε, _, c.step s1 w1, q, fun y vi W2 H2 s2 w2 ry q2 => ?_⟩⟩
  obtain ⟨rfl, q2⟩ := q2
  cases rx with
  | pot p =>
    rename_i a
    have c2 := (c.step s1 w1).step s2 w2
    have p2 := s2.le.P _ p
    obtain ⟨f0, oo, e0, m, n0, rfl, b1, b2, b3⟩ := w2.pot _ p2
    cases r with
    | int n =>
      obtain ⟨q3, q4⟩ := (show ((y = .int 0 ∧ 0 ≤ n) ∨ (y = .int 1 ∧ 0 ≤ n ∧ n < 2147483648)) ∧ R ε from q2)
      rcases q3 with ⟨rfl, p1⟩ | ⟨rfl, p1, p3⟩
      · cases ry
        exact ⟨_, _, 0, 0, rfl, rfl, e0, rfl, k ε σ W2 _ (s1.trans s2).le (c2.pot p2 ⟨_, _, rfl, p1, b2, b3⟩) q4⟩
      · cases ry
        exact ⟨_, _, 1, 1, rfl, rfl, e0, rfl, k ε σ W2 _ (s1.trans s2).le (c2.pot p2 ⟨_, _, rfl, b1, p1, p3⟩) q4⟩
    | _ => exact (show False from q2).elim
/-- x[i] = .., x an own list -/
def gPutO (j : Nat) (i : WE) : WG := fun d ε R => mOw ε[j]? (fun ds => i ε fun y => mInt y fun n => mO (ixN ds.length n) fun m => R (ε.set j (.own (ds.set m d)))) False
theorem vh_putO (j : Nat) {x : Str} {i : Expr} {pos p : Pos} {wi : WE} (hN : X.N[j]? = some x := by rfl) (hv : Vis X.env.scope x := by first | exact Or.inl rfl | exact Or.inr (Or.inl rfl) | exact Or.inr (Or.inr rfl)) (hd : (x == ("__debug__" : Str)) = false := by decide)
    (hcd : (x == ("__classdict__" : Str)) = false := by decide) (hi : VE X C i wi) (ha : ∀ v, assign (.Subscript (.Name x p) i pos) X.env v = (do
      let ov ← holding [v] (eval (.Name x p) X.env)
      let iv ← holding [v, ov] (eval i X.env)
      standAt pos
      holding [v, ov, iv] (setItem ov iv v)
      release [v, ov, iv] []) := by intro _; rfl) : VH X C (.Subscript (.Name x p) i pos) (gPutO j wi) := PG.imp (pg_sub (pe_var hN hv hd hcd) hi set_list ha) fun v σ H Q q => by
  obtain ⟨W, ε, d, R, c, r, hw, k⟩ := q
  have hw' : mOw ε[j]? (fun ds => wi ε fun y => mInt y fun n => mO (ixN ds.length n) fun m => R (ε.set j (.own (ds.set m d)))) False := hw
  cases h0 : ε[j]? with
  | none => rw [h0] at hw'; exact hw'.elim
  | some s0 =>
    cases s0 with
    | un => rw [h0] at hw'; exact hw'.elim
    | val d0 => rw [h0] at hw'; exact hw'.elim
    | own ds =>
      rw [h0] at hw'
      obtain ⟨a, xs, q1, q2, q3, q4, q5, q6, q7⟩ := own_ty X.K c h0
      refine ⟨_, q1, W, ε, _, c, hw', fun y vi W2 H2 s2 w2 ry q => ?_⟩
      have c2 := c.step s2 w2
      cases ry with
      | int n =>
        have q' : mO (ixN ds.length n) fun m => R (ε.set j (.own (ds.set m d))) := q
        cases hm : ixN ds.length n with
        | none => rw [hm] at q'; exact q'.elim
        | some m =>
          rw [hm] at q'
          exact ⟨a, xs, n, m, rfl, rfl, s2.keep _ _ q2 q7, by rw [q4.length]; exact hm, k _ σ W2 _ s2.le (c2.write h0 q1 ((q4.mono s2.le).set (r.mono s2.le) m) (by rw [List.length_set]; exact q5)) q'⟩
      | _ => exact (show False from q).elim
theorem vs_asgH {tg : Expr} {pos : Pos} {w : WE} {g : WG} (he : VE X C e w) (hg : VH X C tg g) (hs : swapsWithSole [tg] e pos.line X.env = pure false := by rfl) (hw : swappedStores [tg] e X.env = pure none := by rfl)
    (h1 : (assignEach [tg] X.env).map (·.2) = [assign tg X.env] := by rfl) : VS X C (.Assign [tg] e pos) (wAsg w g) := PS.imp (ps_asg he hg hs hw h1) fun D' σ H q => by
  obtain ⟨W, ε, V, c, hw, k⟩ := q
  refine ⟨W, ε, _, c, hw, fun d v W' H' s w' r q => ⟨W', ε, d, _, c.step s w', r, q, fun ε' σ' W2 H2 l c' q => k.nx W2 H2 ε' σ' (s.le.trans l) c' q⟩⟩
/-! divmod -/
def gDivmod (xs : List D) (R : D → Prop) : Prop := m2 xs fun d e => mInt d fun i => mInt e fun j => (0 < j ∧ j < 1073741824) ∧ R (.tup [.int (i / j), .int (i % j)])
theorem vra_divmod : VRA C (fun xs H Q => ∃ i j, xs = [.int i, .int j] ∧ CDiv i j ∧ ∀ p, H p = none → Q (.ref p) (upd H p (.tup [.int (i / j), .int (i % j)]))) gDivmod := by
  intro W H xs ds R Q w ra q k
  obtain ⟨i, j, rfl, h1, q⟩ := m2_ints q
  · have e := repA_ints2 ra
    subst e
    refine ⟨i, j, rfl, h1, fun p np => ?_⟩
    exact k _ _ (W.add p _) _ (Step.add w np) (w.add np) (.tup (.inl upd_same) (by rw [sizeLine_val]; exact (show (2 : Nat) ≤ 16777216 by decide)) (.cons (.int _) (.cons (.int _) .nil))) q
theorem gDivmod_2 {i j : Int} {R : D → Prop} : gDivmod [.int i, .int j] R = ((0 < j ∧ j < 1073741824) ∧ R (.tup [.int (i / j), .int (i % j)])) := rfl
end
theorem atI_of {α : Type} (xs : List α) (k : Int) (h : 0 ≤ k) (h2 : k < xs.length) : ∃ x, L2.atI xs k = some x ∧ xs[k.toNat]? = some x := by
  have hl : k.toNat < xs.length := by omega
  refine ⟨xs[k.toNat], ?_, by simp [hl]⟩
  unfold L2.atI
  rw [show ixN xs.length k = some k.toNat from by unfold ixN; rw [if_pos h, if_pos h2]]
  simp [hl]
theorem atI_mem {α : Type} (xs : List α) (k : Int) (h : 0 ≤ k) (h2 : k < xs.length) : ∃ x, L2.atI xs k = some x ∧ x ∈ xs := by
  obtain ⟨x, h1, h3⟩ := atI_of xs k h h2
  exact ⟨x, h1, List.mem_of_getElem? h3⟩
end VL


set_option Elab.async false
set_option linter.all false
set_option maxRecDepth 100000
set_option maxHeartbeats 4000000
namespace VL
open PySem PySem.Spec PyProof.Rows L2
theorem zip_no_len : typeLookup (.type "zip") "__len__" = pure none := by rw [typeLookup_type, builtinLookup_eq_fast]; kernel_rfl
theorem zip_no_hint : typeLookup (.type "zip") "__length_hint__" = pure none := by rw [typeLookup_type, builtinLookup_eq_fast]; kernel_rfl
/-! ### list(zip(a, b)) of lists -/
inductive Pairs : Hp → Hp → List (V × V) → List V → Prop
  | nil (H : Hp) : Pairs H H [] []
  | snoc {H H' : Hp} {ps : List (V × V)} {ts : List V} {T : Addr} {x y : V} : Pairs H H' ps ts → H' T = none → Pairs H (upd H' T (.tup [x, y])) (ps ++ [(x, y)]) (ts ++ [.ref T])
theorem Pairs.len {H H' : Hp} {ps : List (V × V)} {ts : List V} (p : Pairs H H' ps ts) : ts.length = ps.length := by
  induction p with
  | nil => rfl
  | snoc p n ih => simp [ih]
structure ZSt (h : Heap) (z TI TO i1 i2 l1 l2 : Addr) (i : Nat) (tag : Option Addr) : Prop where
  pTI : PySem.IsPair h TI (.ref i1) (.ref i2)
  pTO : ∃ o, h.get? TO = some o
  h1 : h.IsListIter i1 l1 i
  h2 : h.IsListIter i2 l2 i
  st : (tag = none ∧ IsZip h z TI TO .none ∧ ∃ a b, PySem.IsPair h TO a b) ∨ ∃ T f oT, tag = some T ∧ IsZipHeld h z TI TO T f ∧ h.get? T = some oT ∧ T ≠ z ∧ T ≠ i1 ∧ T ≠ i2
section
variable {X : Cx} {pins : List (Addr × Obj)} {σ : St}
theorem code_extend_zip {A : Around} {R : Result → Shared → Prop} {S z TI TO i1 i2 l1 l2 : Addr} {xs ys : List V} {H0 : Hp} (hh : A.handled = none) (D : ZipApart z TI TO i1 i2 l1 l2) (hn : min xs.length ys.length ≤ sizeLine) (hS : S ≠ z ∧ S ≠ TI ∧ S ≠ TO ∧ S ≠ i1 ∧ S ≠ i2) (res : Value) :
    ∀ (k i : Nat) (s : Shared) (H : Hp) (acc : Array Value) (c : Nat) (ts : List V) (tag : Option Addr), min xs.length ys.length - i = k → i ≤ min xs.length ys.length → ZSt s.heap z TI TO i1 i2 l1 l2 i tag → (∀ T, tag = some T → H T ≠ none) →
      s.heap.get? S = some { cls := .type "list", dict := none, data := .seq acc c, slots := #[] } → Inv X pins σ H s → SqL X.K H l1 xs → SqL X.K H l2 ys → (∀ b ∈ [z, TI, TO, i1, i2, S], FpOk X pins H b) → Vals ts acc.toList → Pairs H0 H ((xs.zip ys).take i) ts →
      (∀ s' H' acc' c' ts', Inv X pins σ H' s' → s'.heap.get? S = some { cls := .type "list", dict := none, data := .seq acc' c', slots := #[] } → FpOk X pins H' S → Vals ts' acc'.toList → Pairs H0 H' (xs.zip ys) ts' → R (.ok (.ret res)) s') →
      codeAny (model X.prog X.w) A (.builtin "list.extend.loop" ⟨[.ref S, .ref z, res], []⟩) R s := by
  obtain ⟨nz, nTI, nTO, n1, n2⟩ := hS
  intro k
  induction k with
  | zero =>
    intro i s H acc c ts tag hk hi st ht hSo I hx hy hf hv hp hR
    have hin : i = min xs.length ys.length := by omega
    refine codeAny_builtin F.entry_extend_loop ?_
    rw [Around.under_plainId F.plain_extend_loop _]
    show wpAny _ A.in1 (pyNext (.ref z) >>= _) _ _ s
    obtain ⟨its, rv, pl, _⟩ := I.list hx
    obtain ⟨its2, rv2, pl2, _⟩ := I.list hy
    have hend : its.toArray[i]? = none ∨ its2.toArray[i]? = none := by
      have e1 := rv.length
      have e2 := rv2.length
      rcases Nat.le_total xs.length ys.length with h | h
      · exact .inl (Array.getElem?_eq_none (by simp; omega))
      · exact .inr (Array.getElem?_eq_none (by simp; omega))
    have fin : ∀ h', (∀ c o, c ≠ z → c ≠ TO → c ≠ i1 → c ≠ i2 → s.heap.get? c = some o → h'.get? c = some o) → wpAny (model X.prog X.w) A.in1 (pure (PySem.Fin.done (.ret res))) (fun fin s' => match fin with | .done f => R (.ok f) s' | .again c' => c'.quiet = true ∧ codeAny (model X.prog X.w) A c' R s') (fun e s' => R (.error e) s') { s with heap := h' } := by
      intro h' hk'
      refine wpAny_pure (hR _ H acc c ts ?_ (hk' S _ nz nTO n1 n2 hSo) (hf S (by simp)) hv ?_)
      · exact I.turnedL (t' := s.toks) (ch := [z, TI, TO, i1, i2, S]) (fun b o hb e => hk' b o (fun q => hb (by simp [q])) (fun q => hb (by simp [q])) (fun q => hb (by simp [q])) (fun q => hb (by simp [q])) e) hf
      · have e : (xs.zip ys).take i = xs.zip ys := List.take_of_length_le (by rw [List.length_zip]; omega)
        rwa [e] at hp
    rcases st.st with ⟨rfl, hz, a, b, hTO⟩ | ⟨T, f, oT, rfl, hz, hT, r1, r2, r3⟩
    · exact wpAny_bind (wpAny_pyNext_zip_end hh D hz st.pTI hTO st.h1 st.h2 pl.isList pl2.isList hend fun h' hk' => fin h' hk')
    · exact wpAny_bind (wpAny_pyNext_zip_end_held hh D hz hT st.pTI st.h1 st.h2 pl.isList pl2.isList hend fun h' hk' => fin h' fun c o c1 _ c3 c4 e => hk' c o c1 c3 c4 e)
  | succ k ih =>
    intro i s H acc c ts tag hk hi st ht hSo I hx hy hf hv hp hR
    have hlt : i < min xs.length ys.length := by omega
    refine codeAny_builtin F.entry_extend_loop ?_
    rw [Around.under_plainId F.plain_extend_loop _]
    show wpAny _ A.in1 (pyNext (.ref z) >>= _) _ _ s
    obtain ⟨its, rv, pl, _⟩ := I.list hx
    obtain ⟨its2, rv2, pl2, _⟩ := I.list hy
    have ix : i < xs.length := by omega
    have iy : i < ys.length := by omega
    obtain ⟨u, hu, ru⟩ := rv.get (show xs[i]? = some xs[i] by simp [ix])
    obtain ⟨u2, hu2, ru2⟩ := rv2.get (show ys[i]? = some ys[i] by simp [iy])
    have zl : z < s.heap.objs.size := by
      rcases st.st with ⟨_, hz, _⟩ | ⟨_, _, _, _, hz, _⟩ <;> exact Heap.lt_size hz
    have Sl : S < s.heap.objs.size := Heap.lt_size hSo
    have hsz : acc.size = i := by
      have := hv.length
      rw [hp.len, List.length_take, List.length_zip] at this
      have e : acc.size = acc.toList.length := by simp
      rw [e, ← this]; omega
    -- one step
    have go : ∀ h' (tag' : Option Addr), ZSt h' z TI TO i1 i2 l1 l2 (i + 1) tag' → (∀ T, tag' = some T → T = s.heap.objs.size ∨ H T ≠ none) → PySem.IsPair h' s.heap.objs.size u u2 →
        (∀ c o, c ≠ z → c ≠ TO → c ≠ i1 → c ≠ i2 → s.heap.get? c = some o → h'.get? c = some o) →
        wpAny (model X.prog X.w) A.in1 (do updateSeq S (·.push (.ref s.heap.objs.size)); again (.builtin "list.extend.loop" ⟨[.ref S, .ref z, res], []⟩)) (fun fin s' => match fin with | .done f => R (.ok f) s' | .again c' => c'.quiet = true ∧ codeAny (model X.prog X.w) A c' R s') (fun e s' => R (.error e) s') { s with heap := h' } := by
      intro h' tag' st' ht' a3 hk'
      have hS' := hk' S _ nz nTO n1 n2 hSo
      refine wpAny_bind ?_
      have new : ObjOk X.prog X.w (upd H s.heap.objs.size (.tup [xs[i], ys[i]])) h' s.heap.objs.size (.tup [xs[i], ys[i]]) :=
        ⟨by show 2 ≤ sizeLine; decide, [u, u2], .cons ru (.cons ru2 .nil), ⟨_, a3, rfl, _, rfl⟩⟩
      have hTn : H s.heap.objs.size = none := I.hok.fresh (Nat.le_refl _)
      have I1 : Inv X pins σ (upd H s.heap.objs.size (.tup [xs[i], ys[i]])) { s with heap := h', toks := s.toks } :=
        I.turnedNew (t' := s.toks) (ch := [z, TI, TO, i1, i2, S]) (fun b o hb e => hk' b o (fun q => hb (by simp [q])) (fun q => hb (by simp [q])) (fun q => hb (by simp [q])) (fun q => hb (by simp [q])) e) hf (Nat.le_refl _) new
      have hlt' : ∀ b ∈ [z, TI, TO, i1, i2, S], b < s.heap.objs.size := fun b hb => by
        have e' : b = z ∨ b = TI ∨ b = TO ∨ b = i1 ∨ b = i2 ∨ b = S := by simpa using hb
        rcases e' with rfl | rfl | rfl | rfl | rfl | rfl
        · exact zl
        · exact Heap.lt_size st.pTI
        · obtain ⟨o, e⟩ := st.pTO; exact Heap.lt_size e
        · obtain ⟨o, e, _⟩ := st.h1; exact Heap.lt_size e
        · obtain ⟨o, e, _⟩ := st.h2; exact Heap.lt_size e
        · exact Sl
      have hf1 : ∀ b ∈ [z, TI, TO, i1, i2, S], FpOk X pins (upd H s.heap.objs.size (.tup [xs[i], ys[i]])) b := fun b hb => by
        obtain ⟨f1, f2⟩ := hf b hb
        refine ⟨?_, f2⟩
        rw [upd_ne (Nat.ne_of_lt (hlt' b hb))]; exact f1
      refine wpAny_updateSeq hS' rfl (wpAny_pure ⟨plainId_quiet F.plain_extend_loop _, ?_⟩) (by rw [hsz]; omega) (by show (acc.push _).size ≤ sizeLine + 1; rw [Array.size_push, hsz]; omega)
      have oth : ∀ b o, b ≠ S → h'.get? b = some o → (h'.update S (Obj.mapSeq (·.push (Value.ref s.heap.objs.size)))).get? b = some o := fun b o hb e => (Heap.get?_update_other _ _ (Ne.symm hb)).trans e
      have up : ∀ b o, H b = some o → upd H s.heap.objs.size (.tup [xs[i], ys[i]]) b = some o := fun b o e => by rw [upd_ne (ne_of_none e hTn)]; exact e
      refine ih (i + 1) _ (upd H s.heap.objs.size (.tup [xs[i], ys[i]])) (acc.push (.ref s.heap.objs.size)) _ (ts ++ [.ref s.heap.objs.size]) tag' (by omega) (by omega) ?_ ?_ (Heap.get?_update_self _ hS' rfl) ?_ ?_ ?_ hf1 ?_ ?_ ?_
      · have nt : ∀ T, tag' = some T → T ≠ S := fun T e q => by
          rcases ht' T e with r | r
          · rw [r] at q; exact absurd Sl (by rw [← q]; exact Nat.lt_irrefl _)
          · rw [q] at r; exact r (hf S (by simp)).1
        refine ⟨oth _ _ nTI.symm st'.pTI, let ⟨o, e⟩ := st'.pTO; ⟨o, oth _ _ nTO.symm e⟩, st'.h1.at fun o e => oth _ o n1.symm e, st'.h2.at fun o e => oth _ o n2.symm e, ?_⟩
        rcases st'.st with ⟨e, hz, a, b, hTO⟩ | ⟨T, f, oT, e, hz, hT, r1, r2, r3⟩
        · exact .inl ⟨e, oth _ _ nz.symm hz, a, b, oth _ _ nTO.symm hTO⟩
        · exact .inr ⟨T, f, oT, e, oth _ _ nz.symm hz, oth _ _ (nt T e) hT, r1, r2, r3⟩
      · intro T e q
        rcases ht' T e with r | r
        · rw [r, upd_same] at q; cases q
        · cases w : H T with
          | none => exact r w
          | some o => rw [up T o w] at q; cases q
      · exact I1.turnedL (t' := s.toks) (ch := [S]) (fun b o hb e => oth b o (fun q => hb (by simp [q])) e) fun b hb => hf1 b (by simp at hb; simp [hb])
      · exact Same.seq (fun b o e => up b o e) hx
      · exact Same.seq (fun b o e => up b o e) hy
      · rw [Array.toList_push]
        exact hv.append (.cons rfl .nil)
      · have e : (xs.zip ys).take (i + 1) = (xs.zip ys).take i ++ [(xs[i], ys[i])] := by
          have hl : i < (xs.zip ys).length := by rw [List.length_zip]; omega
          rw [List.take_succ_eq_append_getElem hl, List.getElem_zip]
        rw [e]
        exact .snoc hp hTn
      · exact hR
    rcases st.st with ⟨rfl, hz, a, b, hTO⟩ | ⟨T, f, oT, rfl, hz, hT, r1, r2, r3⟩
    · refine wpAny_bind (wpAny_pyNext_zip_item D hz st.pTI hTO st.h1 st.h2 pl.isList pl2.isList (x := u) (y := u2) (by simpa using hu) (by simpa using hu2) fun h' a1 a2 a3 a4 a5 a6 hk' => ?_)
      refine go h' (some s.heap.objs.size) ⟨hk' _ _ D.TIz D.TITO D.TIi1 D.TIi2 st.pTI, ⟨_, a2⟩, a3, a4, .inr ⟨_, false, _, rfl, a1, a5, Nat.ne_of_gt zl, ?_, ?_⟩⟩ (fun T e => .inl (Option.some.inj e).symm) a5 hk'
      · obtain ⟨o, e, _⟩ := st.h1; exact Nat.ne_of_gt (Heap.lt_size e)
      · obtain ⟨o, e, _⟩ := st.h2; exact Nat.ne_of_gt (Heap.lt_size e)
    · refine wpAny_bind (wpAny_pyNext_zip_item_held D hz hT st.pTI st.h1 st.h2 pl.isList pl2.isList (x := u) (y := u2) (by simpa using hu) (by simpa using hu2) fun h' a1 a3 a4 a5 a6 hk' => ?_)
      refine go h' (some T) ⟨hk' _ _ D.TIz D.TIi1 D.TIi2 st.pTI, let ⟨o, e⟩ := st.pTO; ⟨o, hk' _ _ D.TOz D.TOi1 D.TOi2 e⟩, a3, a4, .inr ⟨T, true, oT, rfl, a1, hk' _ _ r1 r2 r3 hT, r1, r2, r3⟩⟩ (fun T' e => .inr (by cases e; exact ht T rfl)) a5 fun c o c1 _ c3 c4 e => hk' c o c1 c3 c4 e
theorem call_list_zip {A : Around} {Q : Value → Shared → Prop} {E : Value → Shared → Prop} {s : Shared} {H : Hp} {z TI TO i1 i2 l1 l2 : Addr} {xs ys : List V} (hh : A.handled = none) (D : ZipApart z TI TO i1 i2 l1 l2) (hn : min xs.length ys.length ≤ sizeLine)
    (hz : IsZip s.heap z TI TO .none) (hTI : PySem.IsPair s.heap TI (.ref i1) (.ref i2)) (hTO : ∃ a b, PySem.IsPair s.heap TO a b) (h1 : s.heap.IsListIter i1 l1 0) (h2 : s.heap.IsListIter i2 l2 0) (I : Inv X pins σ H s) (hx : SqL X.K H l1 xs) (hy : SqL X.K H l2 ys)
    (hf : ∀ b ∈ [z, TI, TO, i1, i2], FpOk X pins H b)
    (hQ : ∀ s' H' S ts, Inv X pins σ (upd H' S (.lst ts)) s' → H' S = none → Pairs H H' (xs.zip ys) ts → Q (.ref S) s') :
    wpAny (model X.prog X.w) A (call (.type "list") [.ref z]) Q E s := by
  have lt : ∀ {c o}, s.heap.get? c = some o → c < s.heap.objs.size := fun e => Heap.lt_size e
  obtain ⟨a0, b0, hTO⟩ := hTO
  have Lz := lt hz
  have LTI := lt hTI
  have LTO := lt hTO
  have L1 : i1 < s.heap.objs.size := let ⟨_, e, _⟩ := h1; lt e
  have L2' : i2 < s.heap.objs.size := let ⟨_, e, _⟩ := h2; lt e
  refine callType_codes (Q₁ := fun obj s₁ => obj = .ref s.heap.objs.size ∧ s₁ = { s with heap := s.heap.push { cls := .type "list", data := .seq #[] } }) F.called_list (F.typeCall_list_1 _) F.entry_list_init
    (code_list_new _ ⟨rfl, rfl⟩) fun obj s₁ h₁ => ?_
  obtain ⟨rfl, rfl⟩ := h₁
  obtain ⟨S, hSe⟩ : ∃ S, s.heap.objs.size = S := ⟨_, rfl⟩
  rw [hSe]
  have ltS : ∀ {c o}, s.heap.get? c = some o → S ≠ c := fun e q => by have := lt e; rw [hSe, q] at this; exact Nat.lt_irrefl _ this
  have hS : (s.heap.push { cls := .type "list", data := .seq #[] }).get? S = some { cls := .type "list", data := .seq #[] } := by rw [← hSe]; exact Heap.get?_push_size _ rfl
  refine ⟨⟨_, hS, rfl⟩, F.args_list_init_2 _ _, ?_⟩
  have nz : S ≠ z := by rw [← hSe]; exact Nat.ne_of_gt Lz
  have nTI : S ≠ TI := by rw [← hSe]; exact Nat.ne_of_gt LTI
  have nTO : S ≠ TO := by rw [← hSe]; exact Nat.ne_of_gt LTO
  have n1 : S ≠ i1 := by rw [← hSe]; exact Nat.ne_of_gt L1
  have n2 : S ≠ i2 := by rw [← hSe]; exact Nat.ne_of_gt L2'
  show wpAny _ A.in1.in1 (do let old ← Builtin.List.listItems (.ref S); Builtin.List.listUpdate (.ref S) (fun _ => #[]); letGo old.toList.reverse; Builtin.List.listExtendWith (.ref S) (.ref z) .none) _ _ _
  refine wpAny_bind ?_
  unfold Builtin.List.listItems
  refine wpAny_bind (wpAny_seqItems hS rfl (wpAny_pure ?_))
  show wpAny _ A.in1.in1 (updateSeq S (fun _ => #[]) >>= fun _ => letGo (#[] : Array Value).toList.reverse >>= fun _ => Builtin.List.listExtendWith (.ref S) (.ref z) .none) _ _ _
  refine wpAny_bind (wpAny_updateSeq hS rfl ?_)
  have hS₂ := Heap.get?_update_self (Obj.mapSeq (fun _ => (#[] : Array Value))) hS rfl
  have oth0 : ∀ b o, s.heap.get? b = some o → ((s.heap.push { cls := .type "list", data := .seq #[] }).update S (Obj.mapSeq (fun _ => (#[] : Array Value)))).get? b = some o := fun b o e =>
    (Heap.get?_update_other _ _ (ltS e)).trans (Heap.get?_push_of_some _ e)
  refine wpAny_bind (wpAny_letGo ?_)
  have hTy : ∀ (h : Heap) (tk : Nat), h.get? z = some { cls := .type "zip", dict := none, data := .fields #[.none, .bool false, .bool false, .ref TI, .ref TO], slots := #[] } → ({ s with heap := h, toks := tk } : Shared).TypeIs (.ref z) "zip" := fun h tk e => ⟨_, e, rfl⟩
  unfold Builtin.List.listExtendWith
  refine wpAny_bind (wpAny_typeOf (hTy _ s.toks (oth0 _ _ hz)) ?_)
  have e1 : Builtin.List.listSameRef (.ref S) (.ref z) = false := by simp [Builtin.List.listSameRef, nz]
  have e2 : (Value.type "zip" == Value.type "list") = false := by decide
  have e3 : (Value.type "zip" == Value.type "tuple") = false := by decide
  simp only [e1, e2, e3, Bool.or_false, Bool.false_eq_true, if_false]
  refine wpAny_bind (wpAny_pyIter_zip (oth0 _ _ hz) ?_)
  refine wpAny_bind (wpAny_holding ?_)
  unfold Builtin.List.listLengthHint
  refine wpAny_bind (wpAny_specialOf (hTy _ s.toks (oth0 _ _ hz)) zip_no_len ?_)
  show wpAny _ A.in1.in1 (specialOf (Value.ref z) (Str.ofString "__length_hint__") >>= _) _ _ _
  refine wpAny_bind (wpAny_specialOf (hTy _ s.toks (oth0 _ _ hz)) zip_no_hint ?_)
  refine wpAny_pure ?_
  show wpAny _ A.in1.in1 (rule "list.extend.makes-room" >>= fun _ => Builtin.List.listTouch (.ref S) >>= fun _ =>
    again (.builtin "list.extend.loop" ⟨[.ref S, .ref z, .none], []⟩)) _ _ _
  refine wpAny_bind (wpAny_rule ?_)
  refine wpAny_bind ?_
  show wpAny _ A.in1.in1 (updateSeq S (·.push .none) >>= fun _ => updateSeq S (·.pop)) _ _ _
  refine wpAny_bind (wpAny_updateSeq hS₂ rfl ?_)
  have hS₃ := Heap.get?_update_self (Obj.mapSeq (·.push Value.none)) hS₂ rfl
  refine wpAny_updateSeq (hz := by seq_fits) hS₃ rfl ?_
  have hS₄ := Heap.get?_update_self (Obj.mapSeq (·.pop)) hS₃ rfl
  generalize hhe : Heap.update _ _ _ = h4 at hS₄ ⊢
  have oth : ∀ b o, s.heap.get? b = some o → h4.get? b = some o := fun b o e => by
    have nb : S ≠ b := ltS e
    rw [← hhe]
    exact (Heap.get?_update_other _ _ nb).trans ((Heap.get?_update_other _ _ nb).trans (oth0 b o e))
  have hSn : H S = none := by rw [← hSe]; exact I.hok.fresh (Nat.le_refl _)
  have I4 : Inv X pins σ H { s with heap := h4 } := I.kept (t' := s.toks) oth
  have hf4 : ∀ b ∈ [z, TI, TO, i1, i2, S], FpOk X pins H b := fun b hb => by
    by_cases q : b = S
    · subst q; exact I.fpOk (Nat.le_of_eq hSe) hSn
    · refine hf b ?_
      simp at hb ⊢
      rcases hb with h | h | h | h | h | h
      · simp [h]
      · simp [h]
      · simp [h]
      · simp [h]
      · simp [h]
      · exact (q h).elim
  refine wpAny_pure ⟨plainId_quiet F.plain_extend_loop _, ?_⟩
  refine code_extend_zip (A := A.in1) (H0 := H) hh D hn ⟨nz, nTI, nTO, n1, n2⟩ .none _ 0 { s with heap := h4 } H _ _ [] none rfl (Nat.zero_le _) ⟨oth _ _ hTI, ⟨_, oth _ _ hTO⟩, h1.at fun o e => oth _ o e, h2.at fun o e => oth _ o e, .inl ⟨rfl, oth _ _ hz, a0, b0, oth _ _ hTO⟩⟩ (fun T q => nomatch q) hS₄ I4 hx hy hf4 .nil (by simpa using Pairs.nil H) ?_
  intro s' H' acc' c' ts' I' hS' f' hv' hp'
  refine ⟨rfl, hQ s' H' S ts' ?_ f'.1 hp'⟩
  have hl : ts'.length ≤ sizeLine := by rw [hp'.len, List.length_zip]; exact hn
  have new : ObjOk X.prog X.w (upd H' S (.lst ts')) s'.heap S (.lst ts') := ⟨hl, acc'.toList, c', hv', by simpa using hS'⟩
  exact I'.take (h' := s'.heap) (t' := s'.toks) (fun b ob hb e => e) f' new
/-- list(zip(a, b)) of two lists -/
def tListZip (K : PySem.W.Frag) (ta : TA) : TE := fun σ H Q => ta σ H fun vs H1 => ∃ l1 l2 xs ys, vs = [.ref l1, .ref l2] ∧ SqL K H1 l1 xs ∧ SqL K H1 l2 ys ∧ ∀ H2 S ts, H2 S = none → Pairs H1 H2 (xs.zip ys) ts → Q (.ref S) (upd H2 S (.lst ts))
theorem pe_listZip {e e2 : Expr} {ta : TA} {p p2 pos pos2 : Pos} (hc : X.calm = true) (hg : Gl X "zip") (hm : X.mg "zip" = none) (hg2 : Gl X "list") (hm2 : X.mg "list" = none) (ha : PA X [e, e2] ta)
    (hs : starEach [e, e2] X.env = (false, eval e X.env) :: starEach [e2] X.env := by rfl) (hpl : (backTo pos (starEach [e2] X.env)).any (·.1) = false := by rfl)
    (hs2 : starEach [.Call (.Name "zip" p) [e, e2] [] pos] X.env = (false, eval (.Call (.Name "zip" p) [e, e2] [] pos) X.env) :: starEach [] X.env := by rfl) (hpl2 : (backTo pos2 (starEach [] X.env)).any (·.1) = false := by rfl) :
    PE X (.Call (.Name "list" p2) [.Call (.Name "zip" p) [e, e2] [] pos] [] pos2) (tListZip X.K ta) := by
  refine ⟨fun pins s σ H Q I h => ?_⟩
  refine Call_ (ld_blt I hg2 hm2 PyProof.Rows.boot_list (PyProof.Rows.callWith_type1 (args_cons ?_ hs2) hs2 hpl2))
  refine Call_ (ld_blt I hg hm PyProof.Rows.boot_zip (PyProof.Rows.callWith_type1 (thn (ha.run pos pins s σ H _ I h) fun us s1 ⟨vs, H1, I1, r1, q1⟩ => ?_) hs hpl))
  obtain ⟨l1, l2, xs, ys, rfl, hqx, hqy, q1⟩ := q1
  obtain ⟨u1, u2, rfl, ra, rb⟩ := vals2 r1
  cases ra
  cases rb
  obtain ⟨its, rv, pl, hz1⟩ := I1.list hqx
  obtain ⟨its2, rv2, pl2, hz2⟩ := I1.list hqy
  refine zip_begins2 (begins_list l1 its.toArray) (begins_list l2 its2.toArray) pl.isList pl2.isList fun h' hz hTI hTO h1 h2 hsz hk => args_nil ?_
  have I2 : Inv X pins σ H1 { s1 with heap := h' } := I1.kept (t' := s1.toks) hk
  have b1 := pl.lt
  have b2 := pl2.lt
  obtain ⟨N, hN⟩ : ∃ N, s1.heap.objs.size = N := ⟨_, rfl⟩
  rw [hN] at hz hTI hTO h1 h2 hsz b1 b2 ⊢
  have key : ∀ (a b N : Nat), a < N → b < N → ZipApart (N + 4) (N + 2) (N + 3) N (N + 1) a b := by
    intro a b N ha hb
    constructor
    all_goals first
      | (apply Nat.ne_of_lt; omega)
      | (apply Nat.ne_of_gt; omega)
  have D := key l1 l2 N b1 b2
  refine call_list_zip (s := { s1 with heap := h' }) (I.ok.hd hc) D (by omega) hz hTI ⟨_, _, hTO⟩ ⟨_, h1, rfl, rfl⟩ ⟨_, h2, rfl, rfl⟩ I2 hqx hqy (fun b hb => ?_) fun s' H' S ts I' n' p' => ⟨.ref S, _, I', rfl, q1 H' S ts n' p'⟩
  have hle : N ≤ b := by
    have e' : b = N + 4 ∨ b = N + 2 ∨ b = N + 3 ∨ b = N ∨ b = N + 1 := by simpa using hb
    rcases e' with q | q | q | q | q <;> rw [q] <;> first | exact Nat.le_refl _ | exact Nat.le_add_right _ _
  rw [← hN] at hle
  exact I1.fpOk hle (I1.hok.fresh hle)
end
/-! by trees -/
section
variable {X : Cx} {C : VC}
theorem Pairs.reps {K : PySem.W.Frag} {H0 H : Hp} {ps : List (V × V)} {ts : List V} (p : Pairs H0 H ps ts) : ∀ {W : Wd} {xs ys : List V} {ds es : List D}, WOk W H0 → ps = xs.zip ys → RepA K W xs ds → RepA K W ys es → xs.length = ys.length → ∃ W', Step W H0 W' H ∧ WOk W' H ∧ RepA K W' ts (zipL ds es) := by
  induction p with
  | nil =>
    intro W xs ys ds es w e r r' hl
    cases r with
    | nil => exact ⟨W, .refl, w, by simpa [zipL] using RepA.nil⟩
    | cons a b =>
      cases r' with
      | nil => simp at hl
      | cons c d => simp at e
  | snoc p n ih =>
    rename_i H' ps ts T x y
    intro W xs ys ds es w e r r' hl
    -- the last of each
    have hx : xs ≠ [] := by rintro rfl; simp at e
    have hy : ys ≠ [] := by rintro rfl; simp at e
    obtain ⟨xs', x', rfl⟩ : ∃ a b, xs = a ++ [b] := ⟨xs.dropLast, xs.getLast hx, (List.dropLast_concat_getLast hx).symm⟩
    obtain ⟨ys', y', rfl⟩ : ∃ a b, ys = a ++ [b] := ⟨ys.dropLast, ys.getLast hy, (List.dropLast_concat_getLast hy).symm⟩
    have hl' : xs'.length = ys'.length := by simpa using hl
    rw [List.zip_append hl'] at e
    have e2 := List.append_inj' e rfl
    obtain ⟨e3, e4⟩ := e2
    simp at e4
    obtain ⟨rfl, rfl⟩ := e4
    have rx := r.take xs'.length
    have ry := r'.take ys'.length
    rw [List.take_left] at rx ry
    obtain ⟨W1, s1, w1, r1⟩ := ih w e3 rx ry hl'
    have ld := r.length
    have le := r'.length
    obtain ⟨d, hd, rd⟩ := r.get (show (xs' ++ [x])[xs'.length]? = some x by simp)
    obtain ⟨d2, hd2, rd2⟩ := r'.get (show (ys' ++ [y])[ys'.length]? = some y by simp)
    refine ⟨W1.add T (.tup [x, y]), s1.trans (Step.add w1 n), w1.add n, ?_⟩
    have l1 := Wd.le_add (o := .tup [x, y]) (w1.noF n)
    have ez : zipL ds es = zipL (ds.take xs'.length) (es.take ys'.length) ++ [.tup [d, d2]] := by
      simp at ld le
      have a1 : ds = ds.take xs'.length ++ [d] := by
        have := List.take_append_getElem (l := ds) (i := xs'.length) (by omega)
        rw [List.getElem?_eq_getElem (by omega)] at hd
        cases hd
        rw [this, List.take_of_length_le (by omega)]
      have a2 : es = es.take ys'.length ++ [d2] := by
        have := List.take_append_getElem (l := es) (i := ys'.length) (by omega)
        rw [List.getElem?_eq_getElem (by omega)] at hd2
        cases hd2
        rw [this, List.take_of_length_le (by omega)]
      conv => lhs; rw [a1, a2]
      unfold zipL
      rw [List.zipWith_append (by simp; omega)]
      rfl
    rw [ez]
    refine (r1.mono l1).append (.cons (.tup (.inl upd_same) (by rw [sizeLine_val]; exact (show (2 : Nat) ≤ 16777216 by decide)) (.cons ((rd.mono s1.le).mono l1) (.cons ((rd2.mono s1.le).mono l1) .nil))) .nil)
def nZl (w : WA) : WA := fun ε R => w ε fun ds => m2 ds fun d e => mLs d fun ds => mLs e fun es => R (zipL ds es)
theorem m2_lsts {ds : List D} {k : List D → List D → Prop} (h : m2 ds fun d e => mLs d fun i => mLs e fun j => k i j) : ∃ i j, ds = [.lst i, .lst j] ∧ k i j := by
  match ds, h with
  | [d, e], h =>
    cases d with
    | lst i => cases e with
      | lst j => exact ⟨i, j, rfl, h⟩
      | _ => exact (show False from h).elim
    | _ => exact (show False from h).elim
  | [], h => exact (show False from h).elim
  | [_], h => exact (show False from h).elim
  | _ :: _ :: _ :: _, h => exact (show False from h).elim
theorem vn_listZip {e e2 : Expr} {w : WA} {p p2 pos pos2 : Pos} (hK : C.K = X.K) (hc : X.calm = true) (hg : Gl X "zip") (hm : X.mg "zip" = none) (hg2 : Gl X "list") (hm2 : X.mg "list" = none) (ha : VA X C [e, e2] w)
    (hs : starEach [e, e2] X.env = (false, eval e X.env) :: starEach [e2] X.env := by rfl) (hpl : (backTo pos (starEach [e2] X.env)).any (·.1) = false := by rfl)
    (hs2 : starEach [.Call (.Name "zip" p) [e, e2] [] pos] X.env = (false, eval (.Call (.Name "zip" p) [e, e2] [] pos) X.env) :: starEach [] X.env := by rfl) (hpl2 : (backTo pos2 (starEach [] X.env)).any (·.1) = false := by rfl) :
    VN X C (.Call (.Name "list" p2) [.Call (.Name "zip" p) [e, e2] [] pos] [] pos2) (nZl w) := PE.imp (pe_listZip hc hg hm hg2 hm2 ha hs hpl hs2 hpl2) fun σ H Q q => by
  obtain ⟨W, ε, R, c, hw, k⟩ := q
  refine ⟨W, ε, _, c, hw, fun ds vs W1 H1 s w1 r q => ?_⟩
  obtain ⟨ds, es, rfl, q⟩ := m2_lsts q
  cases r with
  | cons r1 r =>
    cases r with
    | cons r2 r =>
      cases r
      cases r1 with
      | lst h1 z1 a1 =>
        cases r2 with
        | lst h2 z2 a2 =>
          rename_i l1 xs l2 ys
          refine ⟨l1, l2, xs, ys, rfl, hK ▸ w1.sql .refl h1, hK ▸ w1.sql .refl h2, fun H2 S ts n p => ?_⟩
          have e1 : xs.zip ys = (xs.take (min xs.length ys.length)).zip (ys.take (min xs.length ys.length)) := List.zip_eq_zip_take_min
          obtain ⟨W2, s2, w2, r2⟩ := p.reps w1 e1 (a1.take _) (a2.take _) (by simp)
          have e3 : zipL (ds.take (min xs.length ys.length)) (es.take (min xs.length ys.length)) = zipL ds es := by
            unfold zipL
            rw [a1.length, a2.length]
            exact List.zipWith_eq_zipWith_take_min.symm
          rw [e3] at r2
          exact k _ S ts W2 _ ((s.trans s2).trans (Step.new w2 n)) (w2.new n) upd_same r2 (by rw [p.len, List.length_zip]; omega) (w2.noF n) (w2.noP n) (s.none_of (s2.none_of n)) q
end
end VL


set_option Elab.async false
set_option linter.all false
set_option maxRecDepth 100000
set_option maxHeartbeats 4000000
namespace VL
/-! ### alike by a number -/
def Cg (p a b : Int) : Prop := ∃ k, a = b + p * k
section
variable {p a b c d : Int}
theorem Cg.refl (p a : Int) : Cg p a a := ⟨0, by grind⟩
theorem Cg.of_eq (h : a = b) : Cg p a b := h ▸ .refl p a
theorem Cg.symm (h : Cg p a b) : Cg p b a := by
  obtain ⟨k, rfl⟩ := h
  exact ⟨-k, by grind⟩
theorem Cg.trans (h : Cg p a b) (h' : Cg p b c) : Cg p a c := by
  obtain ⟨k, rfl⟩ := h
  obtain ⟨l, rfl⟩ := h'
  exact ⟨k + l, by grind⟩
theorem Cg.add (h : Cg p a b) (h' : Cg p c d) : Cg p (a + c) (b + d) := by
  obtain ⟨k, rfl⟩ := h
  obtain ⟨l, rfl⟩ := h'
  exact ⟨k + l, by grind⟩
theorem Cg.sub (h : Cg p a b) (h' : Cg p c d) : Cg p (a - c) (b - d) := by
  obtain ⟨k, rfl⟩ := h
  obtain ⟨l, rfl⟩ := h'
  exact ⟨k - l, by grind⟩
theorem Cg.mul (h : Cg p a b) (h' : Cg p c d) : Cg p (a * c) (b * d) := by
  obtain ⟨k, rfl⟩ := h
  obtain ⟨l, rfl⟩ := h'
  exact ⟨b * l + k * d + p * k * l, by grind⟩
theorem Cg.mod (p a : Int) : Cg p (a % p) a := ⟨-(a / p), by have := Int.emod_add_mul_ediv a p; grind⟩
theorem Cg.emod (h : Cg p a b) : a % p = b % p := by
  obtain ⟨k, rfl⟩ := h
  exact Int.add_mul_emod_self_left b p k
theorem Cg.of_emod (h : a % p = b % p) : Cg p a b := (Cg.mod p a).symm.trans (h ▸ Cg.mod p b)
theorem Cg.eq_mod (h : Cg p a b) (h1 : 0 ≤ a) (h2 : a < p) : a = b % p := by rw [← h.emod, Int.emod_eq_of_lt h1 h2]
theorem Cg.eq (h : Cg p a b) (h1 : 0 ≤ a) (h2 : a < p) (h3 : 0 ≤ b) (h4 : b < p) : a = b := by rw [h.eq_mod h1 h2, Int.emod_eq_of_lt h3 h4]
end
/-! ### comparisons -/
open PySem PySem.Spec PyProof.Rows L2
theorem D.eqv_refl {d : D} (h : d.okc 20) : d.eqv d = true := PySem.SeqAt.eqv_refl _ (D.okc_data h).2.1
theorem eqvAll_ints : ∀ as bs : List Int, PyData.eqvAll (D.pyA (as.map D.int)) (D.pyA (bs.map D.int)) = decide (as = bs)
  | [], [] => by simp [D.pyA, PyData.eqvAll]
  | [], _ :: _ => by simp [D.pyA, PyData.eqvAll]
  | _ :: _, [] => by simp [D.pyA, PyData.eqvAll]
  | a :: as, b :: bs => by
    simp only [List.map_cons, D.pyA, D.py, PyData.eqvAll, PyData.eqv, eqvAll_ints as bs]
    by_cases h : a = b <;> simp [h]
theorem eqv_ints (as bs : List Int) : (D.lst (as.map D.int)).eqv (.lst (bs.map D.int)) = decide (as = bs) := by
  unfold D.eqv
  simp only [D.py, PyData.eqv]
  exact eqvAll_ints as bs
theorem okc_ints (ns : List Int) : D.okc 20 (.lst (ns.map D.int)) := by simp [D.okc]
theorem cmp_ints (ns : List Int) : (D.lst (ns.map D.int)).cmp = true := D.cmp_of (okc_ints ns)
theorem widA_ints' (ns : List Int) : D.widA (ns.map D.int) = 35 * ns.length := D.widA_ints (f := fun a : Int => a)
end VL


set_option Elab.async false
set_option linter.all false
set_option maxRecDepth 100000
set_option maxHeartbeats 4000000
namespace VL
open PySem PySem.Spec PyProof.Rows L2
theorem PG.or {X : Cx} {e : Expr} {t t' : TG} (h : PG X e t) (h' : PG X e t') : PG X e (fun v σ H Q => t v σ H Q ∨ t' v σ H Q) := ⟨fun pins s σ H v u Q I r q => q.elim (h.run pins s σ H v u Q I r) (h'.run pins s σ H v u Q I r)⟩
section
variable {X : Cx} {C : VC} {es : List Expr}
def gUn (n : Nat) (t : WGs) : WG := fun d ε R => mO (asItems d) fun ds => ds.length = n ∧ t ds ε R
theorem gUn_or {n : Nat} {t : WGs} {d : D} {ε : Ev} {R : Ev → Prop} (h : gUn n t d ε R) : ∃ ds, (d = .lst ds ∨ d = .tup ds) ∧ ds.length = n ∧ t ds ε R := by
  unfold gUn at h
  cases hd : asItems d with
  | none => rw [hd] at h; exact h.elim
  | some ds => rw [hd] at h; exact ⟨ds, asItems_or hd, h⟩
theorem vg_un {js : List Nat} {kk : Nat} {pos : Pos} {t : WGs} {n : Nat} (hK : C.K = X.K) (hc : X.calm = true) (h : VGs X C js es t)
    (hn : (assignEach es X.env).length = n := by rfl) (hst : (assignEach es X.env).findIdx? (·.1) = none := by rfl) : VG X C js (.Tuple es kk pos) (gUn n t) := PG.imp (PG.or (pg_tup hc h hn hst) (pg_lst hc h hn hst)) fun v σ H Q q => by
  obtain ⟨W, ε, d, R, c, r, hw, k⟩ := q
  obtain ⟨ds, hd, h1, h2⟩ := gUn_or hw
  cases r with
  | tup hs hz hr =>
    have e := hd.resolve_left (by intro q; cases q)
    cases e
    exact .inl ⟨_, _, rfl, hK ▸ hs.sq c.w.same, by rw [hr.length]; exact h1, W, ε, _, R, c, hr, h2, k⟩
  | lst hs hz hr =>
    have e := hd.resolve_right (by intro q; cases q)
    cases e
    exact .inr ⟨_, _, rfl, hK ▸ c.w.sql .refl hs, by rw [hr.length]; exact h1, W, ε, _, R, c, hr, h2, k⟩
  | _ => rcases hd with q | q <;> cases q
theorem vh_un {kk : Nat} {pos : Pos} {t : WGs} {n : Nat} (hK : C.K = X.K) (hc : X.calm = true) (h : VHs X C es t)
    (hn : (assignEach es X.env).length = n := by rfl) (hst : (assignEach es X.env).findIdx? (·.1) = none := by rfl) : VH X C (.Tuple es kk pos) (gUn n t) := PG.imp (PG.or (pg_tup hc h hn hst) (pg_lst hc h hn hst)) fun v σ H Q q => by
  obtain ⟨W, ε, d, R, c, r, hw, k⟩ := q
  obtain ⟨ds, hd, h1, h2⟩ := gUn_or hw
  cases r with
  | tup hs hz hr =>
    have e := hd.resolve_left (by intro q; cases q)
    cases e
    exact .inl ⟨_, _, rfl, hK ▸ hs.sq c.w.same, by rw [hr.length]; exact h1, W, ε, _, R, c, hr, h2, k⟩
  | lst hs hz hr =>
    have e := hd.resolve_right (by intro q; cases q)
    cases e
    exact .inr ⟨_, _, rfl, hK ▸ c.w.sql .refl hs, by rw [hr.length]; exact h1, W, ε, _, R, c, hr, h2, k⟩
  | _ => rcases hd with q | q <;> cases q
theorem rd_un {n : Nat} {t : WGs} {d : D} {ε : Ev} {R : Ev → Prop} : gUn n t d ε R = mO (asItems d) fun ds => ds.length = n ∧ t ds ε R := rfl
end
end VL


set_option Elab.async false
set_option linter.all false
set_option maxRecDepth 100000
set_option maxHeartbeats 4000000
namespace KL
open PySem PySem.Spec PyProof.Rows L2 VL
local macro_rules | `(tactic| walk_at "v") => `(tactic| try simp only [wSeq, wNil, wBk, wCt, wDrop, wRet, wRetN, wRet0, wIf, wNever, wAsg, wSet, wSetN, wFor, gNm, eC, e1, e2, eA, aNil, aCons, eTup, nLst, eFrz, eTru, tAndW, tOrW, tNotW, tTru, eIte, eCall, nCall, eCallK, nCallK, nA, oNo, nComp, eWipe, permD, List.getD_cons_zero, List.getD_cons_succ,
  rd_var, rd_frz, rd_app, rd_ext, rd_retO, rd_par, rd_par3, rd_T, rd_chain, rd_and, rd_or, rd_not, rd_bor, rd_tbor, rd_rg1, rd_rg2, gRg1_int, gRg2_int, rd_en, gEn_lst, rd_zp, gZp_2, asItems_lst, asItems_tup, rd_some, rd_slN, rd_slO, rd_sl, gSlN_lst, gSl_lst, gSl_tup, gSl_str, rd_rev, rd_cat, rd_rep, rd_ixO, rd_tp, rd_un, gsCons_cons, gsNil_nil,
  mBl_bl, mInt_int, mLs_lst, mTp_tup, mO_some, mV_val, mOw_own, mOw_val, mOw_un, m1_1, m2_2, m3_3, mO_asInts, mO_asInts', mO_asBls,
  gAdd_int, gAdd_str, gAdd_lst, gAdd_tup, gSub_int, gMod_int, gFdiv_int, gPow_int, gMul_int, gMul_lst, gNeg_int, gLt_int, gLe_int, gGt_int, gGe_int, gEq_int, gEq_str, gEq_lst, gEq_tup, gNe_int, gNe_str, gNe_lst, gNe_tup, gIsN_, gNotN_, gIn_lst, gIn_tup, gIx_lst, gIx_tup, gIx_scr, gIx_str, gLen_lst, gLen_tup, gLen_scr, gLen_str, gSum_lst, gAll_lst, gAny_lst, gAbs_int, gMax2_int, gMin2_int, gInt_int, gInt_bl, gStrI_int, nList_lst, nList_tup, gTuple_lst, gTuple_tup, gIsi_ty, gIsi_tup, gRepr_1, wRetP, nZl, gIxP_0, gIxP_1, gPut, gDivmod_2, gSq_lst, gSq_tup, gSq_str, iSq_, gTru_non, gTru_bl, gTru_int, gTru_lst, SeqI.len, SeqI.sq, SeqI.items, SeqI.list, SeqI.tuple, D.ty, D.known, D.isNon, D.scalar, asTys,
  sizeLine_val, Nat.reduceLeDiff, startE, retEnds, List.map_cons, List.map_nil, List.length_cons, List.length_nil, List.length_map, Nat.reduceAdd, Nat.reduceSub, List.reduceReplicate, List.cons_append, List.nil_append, List.set_cons_succ, List.set_cons_zero, List.getElem?_cons_succ, List.getElem?_cons_zero, Option.map_some, List.all_cons, List.all_nil, List.any_cons, List.any_nil, if_true, if_false, Bool.false_eq_true, Bool.true_eq_false, true_and, and_true, reduceIte, Bool.and_true, Bool.true_and, Bool.not_true, Bool.not_false, Bool.and_self, Bool.not_not, decide_true, decide_false])
def topS (i : Nat) : Stmt := PySem.Challenge.pw_equalruns_k85_whole_tables_by_formula.main.body.getD i (.Pass ⟨0, 0, 0, 0⟩)
structure TOk (K : PySem.W.Frag) (mg : Str → Option Value) (f : Nat → Addr) (fd : Nat → FuncData) : Prop where
  F_is_integer : Fun K "is_integer" "is_integer" (topS 11) (f 11) (fd 11)
  g_is_integer : mg "is_integer" = some (.ref (f 11))
  F_is_within : Fun K "is_within" "is_within" (topS 12) (f 12) (fd 12)
  g_is_within : mg "is_within" = some (.ref (f 12))
  F_is_list : Fun K "is_list" "is_list" (topS 13) (f 13) (fd 13)
  g_is_list : mg "is_list" = some (.ref (f 13))
  F_least_divisor : Fun K "least_divisor" "least_divisor" (topS 14) (f 14) (fd 14)
  g_least_divisor : mg "least_divisor" = some (.ref (f 14))
  F_is_prime_of : Fun K "is_prime_of" "is_prime_of" (topS 15) (f 15) (fd 15)
  g_is_prime_of : mg "is_prime_of" = some (.ref (f 15))
  F_check_prime : Fun K "check_prime" "check_prime" (topS 16) (f 16) (fd 16)
  g_check_prime : mg "check_prime" = some (.ref (f 16))
  F_is_number_of : Fun K "is_number_of" "is_number_of" (topS 17) (f 17) (fd 17)
  g_is_number_of : mg "is_number_of" = some (.ref (f 17))
  F_check_number : Fun K "check_number" "check_number" (topS 18) (f 18) (fd 18)
  g_check_number : mg "check_number" = some (.ref (f 18))
  F_are_numbers : Fun K "are_numbers" "are_numbers" (topS 19) (f 19) (fd 19)
  g_are_numbers : mg "are_numbers" = some (.ref (f 19))
  F_digits_of : Fun K "digits_of" "digits_of" (topS 22) (f 22) (fd 22)
  g_digits_of : mg "digits_of" = some (.ref (f 22))
  F_is_table_of : Fun K "is_table_of" "is_table_of" (topS 23) (f 23) (fd 23)
  g_is_table_of : mg "is_table_of" = some (.ref (f 23))
  F_check_table : Fun K "check_table" "check_table" (topS 24) (f 24) (fd 24)
  g_check_table : mg "check_table" = some (.ref (f 24))
  F_check_numbers : Fun K "check_numbers" "check_numbers" (topS 25) (f 25) (fd 25)
  g_check_numbers : mg "check_numbers" = some (.ref (f 25))
  F_weights_by : Fun K "weights_by" "weights_by" (topS 26) (f 26) (fd 26)
  g_weights_by : mg "weights_by" = some (.ref (f 26))
  F_spread_by : Fun K "spread_by" "spread_by" (topS 27) (f 27) (fd 27)
  g_spread_by : mg "spread_by" = some (.ref (f 27))
  F_folded_by : Fun K "folded_by" "folded_by" (topS 28) (f 28) (fd 28)
  g_folded_by : mg "folded_by" = some (.ref (f 28))
  F_position_weights : Fun K "position_weights" "position_weights" (topS 29) (f 29) (fd 29)
  g_position_weights : mg "position_weights" = some (.ref (f 29))
  F_spread_value : Fun K "spread_value" "spread_value" (topS 30) (f 30) (fd 30)
  g_spread_value : mg "spread_value" = some (.ref (f 30))
  F_folded_table : Fun K "folded_table" "folded_table" (topS 31) (f 31) (fd 31)
  g_folded_table : mg "folded_table" = some (.ref (f 31))
  F__law_pot : Fun K "_law_pot" "_law_pot" (topS 33) (f 33) (fd 33)
  g__law_pot : mg "_law_pot" = some (.ref (f 33))
  F__law_draw : Fun K "_law_draw" "_law_draw" (topS 34) (f 34) (fd 34)
  g__law_draw : mg "_law_draw" = some (.ref (f 34))
  F__law_pick : Fun K "_law_pick" "_law_pick" (topS 35) (f 35) (fd 35)
  g__law_pick : mg "_law_pick" = some (.ref (f 35))
  F__law_products : Fun K "_law_products" "_law_products" (topS 36) (f 36) (fd 36)
  g__law_products : mg "_law_products" = some (.ref (f 36))
  F__law_sums : Fun K "_law_sums" "_law_sums" (topS 37) (f 37) (fd 37)
  g__law_sums : mg "_law_sums" = some (.ref (f 37))
  F__law_case : Fun K "_law_case" "_law_case" (topS 38) (f 38) (fd 38)
  g__law_case : mg "_law_case" = some (.ref (f 38))
  F__law_folded_right : Fun K "_law_folded_right" "_law_folded_right" (topS 39) (f 39) (fd 39)
  g__law_folded_right : mg "_law_folded_right" = some (.ref (f 39))
  F__law_right : Fun K "_law_right" "_law_right" (topS 40) (f 40) (fd 40)
  g__law_right : mg "_law_right" = some (.ref (f 40))
  F_law : Fun K "law" "law" (topS 41) (f 41) (fd 41)
  g_law : mg "law" = some (.ref (f 41))
  b_abs : mg "abs" = none
  b_all : mg "all" = none
  b_bool : mg "bool" = none
  b_divmod : mg "divmod" = none
  b_int : mg "int" = none
  b_isinstance : mg "isinstance" = none
  b_len : mg "len" = none
  b_list : mg "list" = none
  b_max : mg "max" = none
  b_min : mg "min" = none
  b_range : mg "range" = none
  b_repr : mg "repr" = none
  b_sum : mg "sum" = none
  b_tuple : mg "tuple" = none
  b_zip : mg "zip" = none
  c_LEAST_PRIME : ∃ t, mg "LEAST_PRIME" = some (.int 3 t)
  c_MOST_DIGITS : ∃ t, mg "MOST_DIGITS" = some (.int 9 t)
  c_MOST_PRIME : ∃ t, mg "MOST_PRIME" = some (.int 9973 t)
section
variable {P : Program} {w : World} {K : PySem.W.Frag} {mg : Str → Option Value} {base : Heap} {f : Nat → Addr} {fd : Nat → FuncData}
def _root_.VL.D.isInt : D → Bool
  | .int _ => true
  | _ => false
def _root_.VL.D.within : D → Int → Int → Bool
  | .int i, a, b => decide (a ≤ i ∧ i ≤ b)
  | _, _, _ => false
def _root_.VL.D.isList : D → Bool
  | .lst _ => true
  | .tup _ => true
  | _ => false
def sp_is_integer : VSp := fun ds R E => ∃ d, ds = [d] ∧ d.ty ≠ none ∧ R (.bl d.isInt)
theorem b_is_integer (T : TOk K mg f fd) : BindP K (fd 11) ["value"] := bindP_fun T.F_is_integer fun _ _ _ _ _ _ us hl => match us, hl with | [_], _ => rfl
theorem ok_is_integer (T : TOk K mg f fd) : VFn P w K mg base 1 (f 11) (fd 11) ["value"] false sp_is_integer := by
  let st : Stmt := topS 11
  let nm : List Str := ["value"]
  have sc : FnScope ["value"] ["value"] (defScope (topS 11)) := ⟨rfl, rfl, rfl, by decide +kernel, rfl, by decide +kernel, by decide +kernel⟩
  refine vfn_of T.F_is_integer sc (by intro ds R E h; obtain ⟨_, rfl, _⟩ := h; rfl) (fun cdv A outer s H W E EK B => ⟨_, (vss_one (vs_ret (ve_and (ve_callB (pe_callB call_isiV (by rfl) T.b_isinstance (by decide +kernel) (va_cons (ve_var 0) (va_cons (ve_C (pe_bltn (v := .ty "int") (by rfl) T.b_int (by decide +kernel) rfl) (fun _ => .raw _)) va_nil))) (vra_isi B.K)) (ve_one (ve_not (ve_callB (pe_callB call_isiV (by rfl) T.b_isinstance (by decide +kernel) (va_cons (ve_var 0) (va_cons (ve_C (pe_bltn (v := .ty "bool") (by rfl) T.b_bool (by decide +kernel) rfl) (fun _ => .raw _)) va_nil))) (vra_isi B.K))))))), fun ds R h => ?_⟩)
  clear B sc T nm st
  obtain ⟨d, rfl, ht, q⟩ := h
  cases d <;> first | exact (ht rfl).elim | (walk_at "v"; simpa [okC, isiB, D.isInt] using q)
def sp_is_within : VSp := fun ds R E => ∃ d a b, ds = [d, .int a, .int b] ∧ d.ty ≠ none ∧ R (.bl (d.within a b))
theorem b_is_within (T : TOk K mg f fd) : BindP K (fd 12) ["value", "least", "most"] := bindP_fun T.F_is_within fun _ _ _ _ _ _ us hl => match us, hl with | [_, _, _], _ => rfl
theorem ok_is_within (T : TOk K mg f fd) : VFn P w K mg base 2 (f 12) (fd 12) ["value", "least", "most"] false sp_is_within := by
  let st : Stmt := topS 12
  let nm : List Str := ["value", "least", "most"]
  have sc : FnScope ["value", "least", "most"] ["value", "least", "most"] (defScope (topS 12)) := ⟨rfl, rfl, rfl, by decide +kernel, rfl, by decide +kernel, by decide +kernel⟩
  refine vfn_of T.F_is_within sc (by intro ds R E h; obtain ⟨_, _, _, rfl, _⟩ := h; rfl) (fun cdv A outer s H W E EK B => ⟨_, (vss_one (vs_ret (ve_and (ve_call (pe_callV B (by decide) (ok_is_integer T) (b_is_integer T) (by rfl) T.g_is_integer T.F_is_integer.kp (va_cons (ve_var 0) va_nil))) (ve_one (ve_chain op_le vr_le op_le vr_le (ve_var 1) (ve_var 0) (ve_var 2)))))), fun ds R h => ?_⟩)
  clear B sc T nm st
  obtain ⟨d, a, b, rfl, ht, q⟩ := h
  walk_at "v"
  refine ⟨d, rfl, ht, ?_⟩
  cases d with
  | int i =>
    by_cases h1 : a ≤ i
    · simp only [D.isInt]; walk_at "v"; simpa [D.within, h1] using q
    · simp only [D.isInt]; walk_at "v"; simpa [D.within, h1] using q
  | _ => simp only [D.isInt]; walk_at "v"; simpa [D.within] using q
def sp_is_list : VSp := fun ds R E => ∃ d, ds = [d] ∧ d.ty ≠ none ∧ R (.bl d.isList)
theorem b_is_list (T : TOk K mg f fd) : BindP K (fd 13) ["value"] := bindP_fun T.F_is_list fun _ _ _ _ _ _ us hl => match us, hl with | [_], _ => rfl
theorem ok_is_list (T : TOk K mg f fd) : VFn P w K mg base 1 (f 13) (fd 13) ["value"] false sp_is_list := by
  let st : Stmt := topS 13
  let nm : List Str := ["value"]
  have sc : FnScope ["value"] ["value"] (defScope (topS 13)) := ⟨rfl, rfl, rfl, by decide +kernel, rfl, by decide +kernel, by decide +kernel⟩
  refine vfn_of T.F_is_list sc (by intro ds R E h; obtain ⟨_, rfl, _⟩ := h; rfl) (fun cdv A outer s H W E EK B => ⟨_, (vss_one (vs_ret (ve_callB (pe_callB call_isiV (by rfl) T.b_isinstance (by decide +kernel) (va_cons (ve_var 0) (va_cons (ve_tup (va_cons (ve_C (pe_bltn (v := .ty "list") (by rfl) T.b_list (by decide +kernel) rfl) (fun _ => .raw _)) (va_cons (ve_C (pe_bltn (v := .ty "tuple") (by rfl) T.b_tuple (by decide +kernel) rfl) (fun _ => .raw _)) va_nil))) va_nil))) (vra_isi B.K)))), fun ds R h => ?_⟩)
  clear B sc T nm st
  obtain ⟨d, rfl, ht, q⟩ := h
  cases d <;> first | exact (ht rfl).elim | (walk_at "v"; simpa [okC, isiB, D.isList] using q)
def ldGo (n : Int) : Nat → Int → Int
  | 0, _ => n
  | k + 1, f => if f * f ≤ n then (if n % f = 0 then f else ldGo n k (f + 1)) else n
def leastDiv (n : Int) : Int := ldGo n n.toNat 2
def sp_least_divisor : VSp := fun ds R E => ∃ n, ds = [.int n] ∧ (2 ≤ n ∧ n ≤ 10000) ∧ R (.int (leastDiv n))
theorem b_least_divisor (T : TOk K mg f fd) : BindP K (fd 14) ["count"] := bindP_fun T.F_least_divisor fun _ _ _ _ _ _ us hl => match us, hl with | [_], _ => rfl
theorem ok_least_divisor (T : TOk K mg f fd) : VFn P w K mg base 1 (f 14) (fd 14) ["count"] false sp_least_divisor := by
  let st : Stmt := topS 14
  let nm : List Str := ["count", "found"]
  have sc : FnScope ["count", "found"] ["count"] (defScope (topS 14)) := ⟨rfl, rfl, rfl, by decide +kernel, rfl, by decide +kernel, by decide +kernel⟩
  refine vfn_of T.F_least_divisor sc (by intro ds R E h; obtain ⟨_, rfl, _⟩ := h; rfl) (fun cdv A outer s H W E EK B => ⟨_, (vss_cons (vs_set (i := 1) sc.nd rfl (Or.inl rfl) ve_int)
      (vss_cons (vs_while (passes_of rfl) (vt_cmp op_le vr_le (ve_mul (ve_var 1) (ve_var 1)) (ve_var 0) (nomark _))
      (vss_cons (vs_if (vt_cmp (op_eqU B.u64) (vr_eq B.K) (ve_mod (ve_var 0) (ve_var 1)) ve_int (nomark _))
      (vss_one (vs_ret (ve_var 1)))
      vss_nil)
      (vss_one (vs_set (i := 1) sc.nd rfl (Or.inl rfl) (ve_add B.K (ve_var 1) ve_int)))))
      (vss_one (vs_ret (ve_var 0))))), fun ds R h => ?_⟩)
  clear B sc T nm st
  obtain ⟨n, rfl, ⟨h1, h2⟩, q⟩ := h
  walk_at "v"
  refine ⟨fun m ε => ∃ (f : Int), ε = [.val (.int n), .val (.int f)] ∧ 2 ≤ f ∧ (m : Int) + f = n + 2 ∧ ldGo n m f = leastDiv n, ⟨n.toNat, 2, rfl, by omega, by omega, rfl⟩, ?_⟩
  rintro m ε ⟨x, rfl, hx, hm, hl⟩
  walk_at "v"
  refine ⟨.inl ⟨by omega, by omega⟩, ?_⟩
  by_cases h3 : x * x ≤ n
  · rw [if_pos (decide_eq_true h3)]
    refine ⟨by omega, ?_⟩
    have hxn : x ≤ n := Int.le_trans (by have := Int.mul_le_mul_of_nonneg_right (show 1 ≤ x by omega) (show 0 ≤ x by omega); omega) h3
    obtain ⟨k, rfl⟩ : ∃ k, m = k + 1 := ⟨m - 1, by omega⟩
    unfold ldGo at hl
    rw [if_pos h3] at hl
    by_cases h4 : n % x = 0
    · rw [if_pos (decide_eq_true h4)]
      rw [if_pos h4] at hl
      rw [hl]; exact q
    · rw [if_neg (by simpa using h4)]
      rw [if_neg h4] at hl
      exact ⟨k, by omega, x + 1, rfl, by omega, by omega, hl⟩
  · rw [if_neg (by simpa using h3)]
    have e : ldGo n m x = n := by
      cases m with
      | zero => rfl
      | succ k => unfold ldGo; rw [if_neg h3]
    rw [← hl, e] at q
    exact q
def isPrimeI (p : Int) : Bool := decide (3 ≤ p ∧ p ≤ 9973 ∧ leastDiv p = p)
def _root_.VL.D.isPrime : D → Bool
  | .int p => isPrimeI p
  | _ => false
theorem _root_.VL.D.isPrime_ty {d : D} (h : d.isPrime = true) : d.ty ≠ none := by
  intro z
  cases d <;> first | (cases z; done) | (cases h; done)
theorem _root_.VL.D.within_ty {d : D} {a b : Int} (h : d.within a b = true) : d.ty ≠ none := by
  intro z
  cases d <;> first | (cases z; done) | (cases h; done)
def sp_is_prime_of : VSp := fun ds R E => ∃ d, ds = [d] ∧ d.ty ≠ none ∧ R (.bl d.isPrime)
theorem b_is_prime_of (T : TOk K mg f fd) : BindP K (fd 15) ["value"] := bindP_fun T.F_is_prime_of fun _ _ _ _ _ _ us hl => match us, hl with | [_], _ => rfl
theorem ok_is_prime_of (T : TOk K mg f fd) : VFn P w K mg base 3 (f 15) (fd 15) ["value"] false sp_is_prime_of := by
  let st : Stmt := topS 15
  let nm : List Str := ["value"]
  have sc : FnScope ["value"] ["value"] (defScope (topS 15)) := ⟨rfl, rfl, rfl, by decide +kernel, rfl, by decide +kernel, by decide +kernel⟩
  refine vfn_of T.F_is_prime_of sc (by intro ds R E h; obtain ⟨_, rfl, _⟩ := h; rfl) (fun cdv A outer s H W E EK B => ⟨_, (vss_one (vs_ret (ve_and (ve_call (pe_callV B (by decide) (ok_is_within T) (b_is_within T) (by rfl) T.g_is_within T.F_is_within.kp (va_cons (ve_var 0) (va_cons (ve_globI rfl T.c_LEAST_PRIME) (va_cons (ve_globI rfl T.c_MOST_PRIME) va_nil))))) (ve_one (ve_cmp (op_eqU B.u64) (vr_eq B.K) (ve_call (pe_callV B (by decide) (ok_least_divisor T) (b_least_divisor T) (by rfl) T.g_least_divisor T.F_least_divisor.kp (va_cons (ve_var 0) va_nil))) (ve_var 0) (nomark _)))))), fun ds R h => ?_⟩)
  clear B sc T nm st
  obtain ⟨d, rfl, ht, q⟩ := h
  walk_at "v"
  refine ⟨d, 3, 9973, rfl, ht, ?_⟩
  cases d with
  | int i =>
    by_cases h1 : 3 ≤ i ∧ i ≤ 9973
    · simp only [D.within, h1, and_self, decide_true]
      walk_at "v"
      refine ⟨i, rfl, by omega, ?_⟩
      walk_at "v"
      simpa [D.isPrime, isPrimeI, h1] using q
    · simp only [D.within, h1, decide_false]
      walk_at "v"
      have e : D.isPrime (.int i) = false := by
        simp only [D.isPrime, isPrimeI, decide_eq_false_iff_not]
        omega
      rw [e] at q
      exact q
  | _ => simp only [D.within]; walk_at "v"; simpa [D.isPrime] using q
def sp_check_prime : VSp := fun ds R E => ∃ d, ds = [d] ∧ d.isPrime = true ∧ R .non
theorem b_check_prime (T : TOk K mg f fd) : BindP K (fd 16) ["value"] := bindP_fun T.F_check_prime fun _ _ _ _ _ _ us hl => match us, hl with | [_], _ => rfl
theorem ok_check_prime (T : TOk K mg f fd) : VFn P w K mg base 4 (f 16) (fd 16) ["value"] false sp_check_prime := by
  let st : Stmt := topS 16
  let nm : List Str := ["value"]
  have sc : FnScope ["value"] ["value"] (defScope (topS 16)) := ⟨rfl, rfl, rfl, by decide +kernel, rfl, by decide +kernel, by decide +kernel⟩
  refine vfn_of T.F_check_prime sc (by intro ds R E h; obtain ⟨_, rfl, _⟩ := h; rfl) (fun cdv A outer s H W E EK B => ⟨_, (vss_one (vs_if (vt_not (vt_truth B.K (ve_call (pe_callV B (by decide) (ok_is_prime_of T) (b_is_prime_of T) (by rfl) T.g_is_prime_of T.F_is_prime_of.kp (va_cons (ve_var 0) va_nil)))))
      (vss_one vs_never)
      vss_nil)), fun ds R h => ?_⟩)
  clear B sc T nm st
  obtain ⟨d, rfl, hp, q⟩ := h
  walk_at "v"
  refine ⟨d, rfl, D.isPrime_ty hp, ?_⟩
  rw [hp]
  walk_at "v"
  exact q
def sp_is_number_of : VSp := fun ds R E => ∃ p d, ds = [.int p, d] ∧ d.ty ≠ none ∧ R (.bl (d.within 0 (p - 1)))
theorem b_is_number_of (T : TOk K mg f fd) : BindP K (fd 17) ["prime", "value"] := bindP_fun T.F_is_number_of fun _ _ _ _ _ _ us hl => match us, hl with | [_, _], _ => rfl
theorem ok_is_number_of (T : TOk K mg f fd) : VFn P w K mg base 3 (f 17) (fd 17) ["prime", "value"] false sp_is_number_of := by
  let st : Stmt := topS 17
  let nm : List Str := ["prime", "value"]
  have sc : FnScope ["prime", "value"] ["prime", "value"] (defScope (topS 17)) := ⟨rfl, rfl, rfl, by decide +kernel, rfl, by decide +kernel, by decide +kernel⟩
  refine vfn_of T.F_is_number_of sc (by intro ds R E h; obtain ⟨_, _, rfl, _⟩ := h; rfl) (fun cdv A outer s H W E EK B => ⟨_, (vss_one (vs_ret (ve_call (pe_callV B (by decide) (ok_is_within T) (b_is_within T) (by rfl) T.g_is_within T.F_is_within.kp (va_cons (ve_var 1) (va_cons ve_int (va_cons (ve_sub (ve_var 0) ve_int) va_nil))))))), fun ds R h => ?_⟩)
  clear B sc T nm st
  obtain ⟨p, d, rfl, ht, q⟩ := h
  walk_at "v"
  exact ⟨d, 0, p - 1, rfl, ht, q⟩
def sp_check_number : VSp := fun ds R E => ∃ p d, ds = [.int p, d] ∧ d.within 0 (p - 1) = true ∧ R .non
theorem b_check_number (T : TOk K mg f fd) : BindP K (fd 18) ["prime", "value"] := bindP_fun T.F_check_number fun _ _ _ _ _ _ us hl => match us, hl with | [_, _], _ => rfl
theorem ok_check_number (T : TOk K mg f fd) : VFn P w K mg base 4 (f 18) (fd 18) ["prime", "value"] false sp_check_number := by
  let st : Stmt := topS 18
  let nm : List Str := ["prime", "value"]
  have sc : FnScope ["prime", "value"] ["prime", "value"] (defScope (topS 18)) := ⟨rfl, rfl, rfl, by decide +kernel, rfl, by decide +kernel, by decide +kernel⟩
  refine vfn_of T.F_check_number sc (by intro ds R E h; obtain ⟨_, _, rfl, _⟩ := h; rfl) (fun cdv A outer s H W E EK B => ⟨_, (vss_one (vs_if (vt_not (vt_truth B.K (ve_call (pe_callV B (by decide) (ok_is_number_of T) (b_is_number_of T) (by rfl) T.g_is_number_of T.F_is_number_of.kp (va_cons (ve_var 0) (va_cons (ve_var 1) va_nil))))))
      (vss_one vs_never)
      vss_nil)), fun ds R h => ?_⟩)
  clear B sc T nm st
  obtain ⟨p, d, rfl, hp, q⟩ := h
  walk_at "v"
  refine ⟨p, d, rfl, D.within_ty hp, ?_⟩
  rw [hp]
  walk_at "v"
  exact q
def areNums (p : Int) : D → Bool
  | .lst ds => ds.all fun d => d.within 0 (p - 1)
  | .tup ds => ds.all fun d => d.within 0 (p - 1)
  | _ => false
def _root_.VL.D.known1 : D → Prop
  | .lst ds => ∀ d ∈ ds, d.ty ≠ none
  | .tup ds => ∀ d ∈ ds, d.ty ≠ none
  | d => d.ty ≠ none
def sp_are_numbers : VSp := fun ds R E => ∃ p d, ds = [.int p, d] ∧ d.known1 ∧ R (.bl (areNums p d))
theorem b_are_numbers (T : TOk K mg f fd) : BindP K (fd 19) ["prime", "value"] := bindP_fun T.F_are_numbers fun _ _ _ _ _ _ us hl => match us, hl with | [_, _], _ => rfl
theorem ok_are_numbers (T : TOk K mg f fd) : VFn P w K mg base 4 (f 19) (fd 19) ["prime", "value"] false sp_are_numbers := by
  let st : Stmt := topS 19
  let nm : List Str := ["prime", "value", "one"]
  have sc : FnScope ["prime", "value", "one"] ["prime", "value"] (defScope (topS 19)) := ⟨rfl, rfl, rfl, by decide +kernel, rfl, by decide +kernel, by decide +kernel⟩
  refine vfn_of T.F_are_numbers sc (by intro ds R E h; obtain ⟨_, _, rfl, _⟩ := h; rfl) (fun cdv A outer s H W E EK B => ⟨_, (vss_one (vs_ret (ve_and (ve_call (pe_callV B (by decide) (ok_is_list T) (b_is_list T) (by rfl) T.g_is_list T.F_is_list.kp (va_cons (ve_var 1) va_nil))) (ve_one (ve_callB (pe_callB (cr_all rfl) (by rfl) T.b_all (by decide +kernel) (va_cons (ve_frz (vn_lc [("one", 2)] rfl sc.nd (vi_seq B.K (ve_var 1)) (blkOk_by (own := [("one", 2)]) (N := nm) (sc := defScope st) (by decide +kernel)) (fun _ _ _ _ _ => (vg_name (i := 2) sc.nd rfl (Or.inl rfl))) (fun _ _ _ _ _ => vts_nil) (fun _ _ _ _ _ => (ve_call (pe_callV B.blk (by decide) (ok_is_number_of T) (b_is_number_of T) (by rfl) T.g_is_number_of T.F_is_number_of.kp (va_cons (ve_var 0) (va_cons (ve_var 2) va_nil))))))) va_nil)) (vra_all)))))), fun ds R h => ?_⟩)
  clear B sc T nm st
  obtain ⟨p, d, rfl, ht, q⟩ := h
  walk_at "v"
  have key : ∀ es : List D, (∀ d ∈ es, d.ty ≠ none) → ∀ (R' : List D → Prop), R' (es.map fun d => .bl (d.within 0 (p - 1))) →
      compL (gNm 2) tTru (eCall sp_is_number_of noX (aCons (eVar 0) (aCons (eVar 2) aNil))) R' [S.val (D.int p), S.val d, S.un] es [] := by
    intro es he R' hR
    refine compL_mapD (fun d => .bl (d.within 0 (p - 1))) _ _ (fun d hd K K0 hK => ?_) hR
    walk_at "v"
    exact ⟨p, d, rfl, he d hd, hK⟩
  have ht1 : d.ty ≠ none := by
    cases d <;> first | exact ht | simp [D.ty]
  refine ⟨d, rfl, ht1, ?_⟩
  cases d with
  | lst es => exact key es ht _ (by rw [mO_asBls]; simpa [areNums, List.all_map, Function.comp_def] using q)
  | tup es => exact key es ht _ (by rw [mO_asBls]; simpa [areNums, List.all_map, Function.comp_def] using q)
  | _ => simp only [D.isList]; walk_at "v"; exact q
theorem pow2_le {a b : Nat} (h : a ≤ b) : (2 : Int) ^ a ≤ 2 ^ b := by exact_mod_cast Nat.pow_le_pow_right (by decide) h
theorem areNums_seq {p : Int} {d : D} {ns : List Int} (h : SeqI d ns) (hb : ∀ n ∈ ns, 0 ≤ n ∧ n < p) : areNums p d = true := by
  rcases h with rfl | rfl
  all_goals
    simp only [areNums, List.all_map, List.all_eq_true]
    intro n hn
    have := hb n hn
    simp only [Function.comp_apply, D.within, decide_eq_true_eq]
    omega
theorem _root_.VL.SeqI.known1 {d : D} {ns : List Int} (h : SeqI d ns) : d.known1 := by
  rcases h with rfl | rfl
  all_goals
    intro x hx
    obtain ⟨n, _, rfl⟩ := List.mem_map.mp hx
    simp [D.ty]
def wts (p : Int) : List Int → List Int → List Int
  | found, [] => found
  | found, n :: ns => wts p (found.flatMap fun one => [(one * (1 - n)) % p, (one * n) % p]) ns
theorem flatMap2_length {α β : Type} (f g : α → β) : ∀ xs : List α, (xs.flatMap fun x => [f x, g x]).length = 2 * xs.length
  | [] => rfl
  | x :: xs => by simp [List.flatMap_cons, flatMap2_length f g xs]; omega
theorem wts_length (p : Int) : ∀ (ns found : List Int), (wts p found ns).length = found.length * 2 ^ ns.length
  | [], found => by simp [wts]
  | n :: ns, found => by
    unfold wts
    rw [wts_length p ns, flatMap2_length, List.length_cons, Nat.pow_succ]
    ac_rfl
def sp_digits_of : VSp := fun ds R E => ∃ (n : Int) (k : Nat), ds = [.int n] ∧ (k ≤ 24 ∧ n ≤ 2 ^ k ∧ (k = 0 ∨ 2 ^ (k - 1) < n)) ∧ R (.int k)
theorem b_digits_of (T : TOk K mg f fd) : BindP K (fd 22) ["many"] := bindP_fun T.F_digits_of fun _ _ _ _ _ _ us hl => match us, hl with | [_], _ => rfl
theorem ok_digits_of (T : TOk K mg f fd) : VFn P w K mg base 1 (f 22) (fd 22) ["many"] false sp_digits_of := by
  let st : Stmt := topS 22
  let nm : List Str := ["many", "found", "lists"]
  have sc : FnScope ["many", "found", "lists"] ["many"] (defScope (topS 22)) := ⟨rfl, rfl, rfl, by decide +kernel, rfl, by decide +kernel, by decide +kernel⟩
  refine vfn_of T.F_digits_of sc (by intro ds R E h; obtain ⟨_, _, rfl, _⟩ := h; rfl) (fun cdv A outer s H W E EK B => ⟨_, (vss_cons (vs_asg (ve_tup (va_cons ve_int (va_cons ve_int va_nil))) (vg_un (n := 2) B.K rfl (vgs_cons (vg_name (i := 1) sc.nd rfl (Or.inl rfl)) (vgs_cons (vg_name (i := 2) sc.nd rfl (Or.inl rfl)) vgs_nil))))
      (vss_cons (vs_while (passes_of rfl) (vt_cmp op_lt vr_lt (ve_var 2) (ve_var 0) (nomark _))
      (vss_one (vs_par (i := 1) (j := 2) rfl sc.nd rfl rfl (by decide) rfl rfl (va_cons (ve_add B.K (ve_var 1) ve_int) (va_cons (ve_mul ve_int (ve_var 2)) va_nil)) (by rfl))))
      (vss_one (vs_ret (ve_var 1))))), fun ds R h => ?_⟩)
  clear B sc T nm st
  obtain ⟨n, k, rfl, ⟨hk, h1, h2⟩, q⟩ := h
  walk_at "v"
  refine ⟨fun m ε => ∃ j : Nat, ε = [.val (.int n), .val (.int j), .val (.int (2 ^ j))] ∧ m + j = k, ⟨k, 0, rfl, by omega⟩, ?_⟩
  rintro m ε ⟨j, rfl, hm⟩
  walk_at "v"
  by_cases h3 : (2 : Int) ^ j < n
  · have : j < k := by
      rcases Nat.lt_or_ge j k with z | z
      · exact z
      · have : (2 : Int) ^ k ≤ 2 ^ j := pow2_le z
        omega
    rw [if_pos (decide_eq_true h3)]
    refine ⟨by simp, m - 1, by omega, j + 1, ?_, by omega⟩
    simp [Int.pow_succ, Int.mul_comm]
  · rw [if_neg (by simpa using h3)]
    have : j = k := by
      rcases h2 with rfl | z
      · omega
      · rcases Nat.lt_or_ge j k with z' | z'
        · have : (2 : Int) ^ j ≤ 2 ^ (k - 1) := pow2_le (by omega)
          omega
        · omega
    rw [this]; exact q
def sp_weights_by : VSp := fun ds R E => ∃ (p : Int) (d : D) (ns : List Int), ds = [.int p, d] ∧ (0 < p ∧ p < 2 ^ 60 ∧ SeqI d ns ∧ ns.length ≤ 9 ∧ ∀ n ∈ ns, 0 ≤ n ∧ n < p) ∧ R (.lst ((wts p [1] ns).map D.int))
theorem b_weights_by (T : TOk K mg f fd) : BindP K (fd 26) ["prime", "numbers"] := bindP_fun T.F_weights_by fun _ _ _ _ _ _ us hl => match us, hl with | [_, _], _ => rfl
theorem ok_weights_by (T : TOk K mg f fd) : VFn P w K mg base 1 (f 26) (fd 26) ["prime", "numbers"] false sp_weights_by := by
  let st : Stmt := topS 26
  let nm : List Str := ["prime", "numbers", "found", "number", "late", "one"]
  have sc : FnScope ["prime", "numbers", "found", "number", "late", "one"] ["prime", "numbers"] (defScope (topS 26)) := ⟨rfl, rfl, rfl, by decide +kernel, rfl, by decide +kernel, by decide +kernel⟩
  refine vfn_of T.F_weights_by sc (by intro ds R E h; obtain ⟨_, _, _, rfl, _⟩ := h; rfl) (fun cdv A outer s H W E EK B => ⟨_, (vss_cons (vs_set (i := 2) sc.nd rfl (Or.inl rfl) (ve_frz (vn_lst (va_cons ve_int va_nil))))
      (vss_cons (vs_for (passes_of rfl) rfl (vi_seq B.K (ve_var 1)) (vg_name (i := 3) sc.nd rfl (Or.inl rfl))
      (vss_cons (vs_setN (i := 4) sc.nd rfl (Or.inl rfl) (vn_lst va_nil))
      (vss_cons (vs_for (passes_of rfl) rfl (vi_seq B.K (ve_var 2)) (vg_name (i := 5) sc.nd rfl (Or.inl rfl))
      (vss_one (vs_ext (i := 4) (pe_bm PySem.F.plainAttrs_list PySem.F.slot_list_extend PySem.F.type_list_extend mt_extend (pv 4) (pa_cons (ve_frz (vn_lst (va_cons (ve_mod (ve_mul (ve_var 5) (ve_sub ve_int (ve_var 3))) (ve_var 0)) (va_cons (ve_mod (ve_mul (ve_var 5) (ve_var 3)) (ve_var 0)) va_nil)))) pa_nil)))))
      (vss_frz 4 (vss_one (vs_set (i := 2) sc.nd rfl (Or.inl rfl) (ve_var 4)))))))
      (vss_one (vs_ret (ve_var 2))))), fun ds R h => ?_⟩)
  clear B sc T nm st
  obtain ⟨p, d, ns, rfl, ⟨hp, hp2, hd, hl, hb⟩, q⟩ := h
  walk_at "v"
  rw [hd.sq]
  refine turns_ind D.int (fun xs ε => ∃ (fs : List Int) (a b c : S), ε = [.val (.int p), .val d, .val (.lst (fs.map D.int)), a, b, c] ∧ fs.length * 2 ^ xs.length ≤ 512 ∧ (∀ x ∈ xs, 0 ≤ x ∧ x < p) ∧ wts p fs xs = wts p [1] ns) ?_ ?_ ns _ ⟨[1], _, _, _, rfl, ?_, hb, rfl⟩
  · rintro x xs ε K' ⟨fs, a, b, c, rfl, h1, h2, h3⟩ hK
    walk_at "v"
    have hx := h2 x List.mem_cons_self
    have h1' : 2 * fs.length * 2 ^ xs.length ≤ 512 := by
      rw [List.length_cons, Nat.pow_succ] at h1
      have e : 2 * fs.length * 2 ^ xs.length = fs.length * (2 ^ xs.length * 2) := by ac_rfl
      omega
    have h1'' : 2 * fs.length ≤ 512 := Nat.le_trans (Nat.le_mul_of_pos_right _ (Nat.two_pow_pos _)) h1'
    refine turns_ind D.int (fun ys ε => ∃ (gs : List Int) (c : S), ε = [.val (.int p), .val d, .val (.lst (fs.map D.int)), .val (.int x), .own (gs.map D.int), c] ∧ gs.length + 2 * ys.length ≤ 512 ∧ gs ++ (ys.flatMap fun one => [(one * (1 - x)) % p, (one * x) % p]) = fs.flatMap fun one => [(one * (1 - x)) % p, (one * x) % p]) ?_ ?_ fs _ ⟨[], _, rfl, by simpa using h1'', rfl⟩
    · rintro y ys ε K2 ⟨gs, c, rfl, g1, g2⟩ hK2
      walk_at "v"
      rw [List.length_cons] at g1
      refine ⟨.inr ⟨by omega, by omega⟩, hp, .inr ⟨by omega, by omega⟩, hp, by omega, hK2 _ ⟨gs ++ [(y * (1 - x)) % p, (y * x) % p], .val (.int y), ?_, ?_, ?_⟩⟩
      · simp only [List.map_append, List.map_cons, List.map_nil]
      · simp only [List.length_append, List.length_cons, List.length_nil]; omega
      · rw [← g2, List.flatMap_cons, List.append_assoc]
    · rintro ε ⟨gs, c, rfl, g1, g2⟩
      walk_at "v"
      rw [List.flatMap_nil, List.append_nil] at g2
      refine hK _ ⟨gs, _, _, _, rfl, ?_, fun z hz => h2 z (List.mem_cons_of_mem _ hz), ?_⟩
      · rw [g2, flatMap2_length]; exact h1'
      · rw [← h3, g2, wts.eq_2]
  · rintro ε ⟨fs, a, b, c, rfl, h1, h2, h3⟩
    walk_at "v"
    rw [← h3, wts.eq_1] at q
    exact q
  · have : 2 ^ ns.length ≤ 2 ^ 9 := Nat.pow_le_pow_right (by decide) hl
    simpa using this
def sp_is_table_of : VSp := fun ds R E => ∃ (p : Int) (d : D) (ns : List Int) (k : Nat), ds = [.int p, d] ∧ (0 < p ∧ p < 2 ^ 60 ∧ SeqI d ns ∧ ns.length = 2 ^ k ∧ k ≤ 9 ∧ ∀ n ∈ ns, 0 ≤ n ∧ n < p) ∧ R (.bl true)
theorem b_is_table_of (T : TOk K mg f fd) : BindP K (fd 23) ["prime", "value"] := bindP_fun T.F_is_table_of fun _ _ _ _ _ _ us hl => match us, hl with | [_, _], _ => rfl
theorem ok_is_table_of (T : TOk K mg f fd) : VFn P w K mg base 5 (f 23) (fd 23) ["prime", "value"] false sp_is_table_of := by
  let st : Stmt := topS 23
  let nm : List Str := ["prime", "value"]
  have sc : FnScope ["prime", "value"] ["prime", "value"] (defScope (topS 23)) := ⟨rfl, rfl, rfl, by decide +kernel, rfl, by decide +kernel, by decide +kernel⟩
  refine vfn_of T.F_is_table_of sc (by intro ds R E h; obtain ⟨_, _, _, _, rfl, _⟩ := h; rfl) (fun cdv A outer s H W E EK B => ⟨_, (vss_cons (vs_if (vt_bool (vw_or (vt_not (vt_truth B.K (ve_call (pe_callV B (by decide) (ok_are_numbers T) (b_are_numbers T) (by rfl) T.g_are_numbers T.F_are_numbers.kp (va_cons (ve_var 0) (va_cons (ve_var 1) va_nil)))))) (vw_or (vt_cmp (op_eqU B.u64) (vr_eq B.K) (ve_callB (pe_callB call_len (by rfl) T.b_len PySem.boot_len (va_cons (ve_var 1) va_nil)) (vra_len B.K)) ve_int (nomark _)) (vw_or1 (vt_cmp op_gt vr_gt (ve_call (pe_callV B (by decide) (ok_digits_of T) (b_digits_of T) (by rfl) T.g_digits_of T.F_digits_of.kp (va_cons (ve_callB (pe_callB call_len (by rfl) T.b_len PySem.boot_len (va_cons (ve_var 1) va_nil)) (vra_len B.K)) va_nil))) (ve_globI rfl T.c_MOST_DIGITS) (nomark _))))))
      (vss_one (vs_ret ve_bl))
      vss_nil)
      (vss_one (vs_ret (ve_cmp (op_eqU B.u64) (vr_eq B.K) (ve_callB (pe_callB call_len (by rfl) T.b_len PySem.boot_len (va_cons (ve_var 1) va_nil)) (vra_len B.K)) (ve_callB (pe_callB call_len (by rfl) T.b_len PySem.boot_len (va_cons (ve_call (pe_callV B (by decide) (ok_weights_by T) (b_weights_by T) (by rfl) T.g_weights_by T.F_weights_by.kp (va_cons (ve_var 0) (va_cons (ve_mul (ve_frz (vn_lst (va_cons ve_int va_nil))) (ve_call (pe_callV B (by decide) (ok_digits_of T) (b_digits_of T) (by rfl) T.g_digits_of T.F_digits_of.kp (va_cons (ve_callB (pe_callB call_len (by rfl) T.b_len PySem.boot_len (va_cons (ve_var 1) va_nil)) (vra_len B.K)) va_nil)))) va_nil)))) va_nil)) (vra_len B.K)) (nomark _))))), fun ds R h => ?_⟩)
  clear B sc T nm st
  obtain ⟨p, d, ns, k, rfl, ⟨hp, hp2, hd, hl, hk, hb⟩, q⟩ := h
  walk_at "v"
  refine ⟨p, d, rfl, hd.known1, ?_⟩
  have hdg : (k ≤ 24 ∧ (ns.length : Int) ≤ 2 ^ k ∧ (k = 0 ∨ 2 ^ (k - 1) < (ns.length : Int))) := by
    rw [hl]
    refine ⟨by omega, by simp, ?_⟩
    cases k with
    | zero => exact .inl rfl
    | succ k =>
      refine .inr ?_
      have := Nat.two_pow_pos k
      rw [Nat.add_sub_cancel, Nat.pow_succ]
      push_cast
      have : (0 : Int) < 2 ^ k := by exact_mod_cast this
      omega
  have hpos := Nat.two_pow_pos k
  rw [areNums_seq hd hb]
  simp only [hd.len]
  walk_at "v"
  rw [decide_eq_false (by omega)]
  walk_at "v"
  refine ⟨ns.length, k, rfl, hdg, ?_⟩
  walk_at "v"
  rw [decide_eq_false (by omega)]
  walk_at "v"
  refine ⟨ns.length, k, rfl, hdg, ?_⟩
  walk_at "v"
  refine ⟨by omega, ?_⟩
  have e0 : (List.replicate (Int.toNat (k : Int)) [D.int 0]).flatten = (List.replicate k (0 : Int)).map D.int := by
    rw [Int.toNat_natCast]
    clear hdg hl hk
    induction k with
    | zero => rfl
    | succ k ih => rw [List.replicate_succ, List.flatten_cons, ih (Nat.two_pow_pos k)]; rfl
  rw [e0]
  refine ⟨p, _, _, rfl, ⟨hp, hp2, seqI_lst, by simpa using hk, ?_⟩, ?_⟩
  · intro n hn
    rw [List.eq_of_mem_replicate hn]; omega
  · walk_at "v"
    rw [wts_length, List.length_replicate, hl]
    simpa using q
def sp_check_table : VSp := fun ds R E => ∃ (p : Int) (d : D) (ns : List Int) (k : Nat), ds = [.int p, d] ∧ (0 < p ∧ p < 2 ^ 60 ∧ SeqI d ns ∧ ns.length = 2 ^ k ∧ k ≤ 9 ∧ ∀ n ∈ ns, 0 ≤ n ∧ n < p) ∧ R .non
theorem b_check_table (T : TOk K mg f fd) : BindP K (fd 24) ["prime", "value"] := bindP_fun T.F_check_table fun _ _ _ _ _ _ us hl => match us, hl with | [_, _], _ => rfl
theorem ok_check_table (T : TOk K mg f fd) : VFn P w K mg base 6 (f 24) (fd 24) ["prime", "value"] false sp_check_table := by
  let st : Stmt := topS 24
  let nm : List Str := ["prime", "value"]
  have sc : FnScope ["prime", "value"] ["prime", "value"] (defScope (topS 24)) := ⟨rfl, rfl, rfl, by decide +kernel, rfl, by decide +kernel, by decide +kernel⟩
  refine vfn_of T.F_check_table sc (by intro ds R E h; obtain ⟨_, _, _, _, rfl, _⟩ := h; rfl) (fun cdv A outer s H W E EK B => ⟨_, (vss_one (vs_if (vt_not (vt_truth B.K (ve_call (pe_callV B (by decide) (ok_is_table_of T) (b_is_table_of T) (by rfl) T.g_is_table_of T.F_is_table_of.kp (va_cons (ve_var 0) (va_cons (ve_var 1) va_nil))))))
      (vss_one vs_never)
      vss_nil)), fun ds R h => ?_⟩)
  clear B sc T nm st
  obtain ⟨p, d, ns, k, rfl, hh, q⟩ := h
  walk_at "v"
  refine ⟨p, d, ns, k, rfl, hh, ?_⟩
  walk_at "v"
  exact q
def sp_check_numbers : VSp := fun ds R E => ∃ (p : Int) (d m : D) (ns : List Int), ds = [.int p, d, m] ∧ (0 < p ∧ SeqI d ns ∧ ns.length ≤ 9 ∧ (m = .non ∨ m = .int ns.length) ∧ ∀ n ∈ ns, 0 ≤ n ∧ n < p) ∧ R .non
theorem b_check_numbers (T : TOk K mg f fd) : BindP K (fd 25) ["prime", "value", "many"] := bindP_fun T.F_check_numbers fun _ _ _ _ _ _ us hl => match us, hl with | [_, _, _], _ => rfl
theorem ok_check_numbers (T : TOk K mg f fd) : VFn P w K mg base 5 (f 25) (fd 25) ["prime", "value", "many"] false sp_check_numbers := by
  let st : Stmt := topS 25
  let nm : List Str := ["prime", "value", "many"]
  have sc : FnScope ["prime", "value", "many"] ["prime", "value", "many"] (defScope (topS 25)) := ⟨rfl, rfl, rfl, by decide +kernel, rfl, by decide +kernel, by decide +kernel⟩
  refine vfn_of T.F_check_numbers sc (by intro ds R E h; obtain ⟨_, _, _, _, rfl, _⟩ := h; rfl) (fun cdv A outer s H W E EK B => ⟨_, (vss_one (vs_if (vt_bool (vw_or (vt_not (vt_truth B.K (ve_call (pe_callV B (by decide) (ok_are_numbers T) (b_are_numbers T) (by rfl) T.g_are_numbers T.F_are_numbers.kp (va_cons (ve_var 0) (va_cons (ve_var 1) va_nil)))))) (vw_or (vt_cmp op_gt vr_gt (ve_callB (pe_callB call_len (by rfl) T.b_len PySem.boot_len (va_cons (ve_var 1) va_nil)) (vra_len B.K)) (ve_globI rfl T.c_MOST_DIGITS) (nomark _)) (vw_or1 (vt_bool (vw_and (vt_cmp op_notN vr_notN (ve_var 2) ve_non (nomark _)) (vw_and1 (vt_cmp (op_neU B.u64) (vr_ne B.K) (ve_callB (pe_callB call_len (by rfl) T.b_len PySem.boot_len (va_cons (ve_var 1) va_nil)) (vra_len B.K)) (ve_var 2) (nomark _)))))))))
      (vss_one vs_never)
      vss_nil)), fun ds R h => ?_⟩)
  clear B sc T nm st
  obtain ⟨p, d, m, ns, rfl, ⟨hp, hd, hl, hm, hb⟩, q⟩ := h
  walk_at "v"
  refine ⟨p, d, rfl, hd.known1, ?_⟩
  rw [areNums_seq hd hb]
  simp only [hd.len]
  walk_at "v"
  rw [decide_eq_false (by omega)]
  walk_at "v"
  rcases hm with rfl | rfl
  · walk_at "v"
    exact q
  · walk_at "v"
    simpa using q
def dotI (xs ys : List Int) : Int := (List.zipWith (fun x y => x * y) xs ys).sum
def sp_spread_by : VSp := fun ds R E => ∃ (p : Int) (t d : D) (ts ns : List Int), ds = [.int p, t, d] ∧ (0 < p ∧ p < 2 ^ 60 ∧ SeqI t ts ∧ SeqI d ns ∧ ns.length ≤ 9 ∧ (∀ n ∈ ts, 0 ≤ n ∧ n < p) ∧ ∀ n ∈ ns, 0 ≤ n ∧ n < p) ∧ R (.int (dotI (wts p [1] ns) ts % p))
theorem b_spread_by (T : TOk K mg f fd) : BindP K (fd 27) ["prime", "table", "numbers"] := bindP_fun T.F_spread_by fun _ _ _ _ _ _ us hl => match us, hl with | [_, _, _], _ => rfl
theorem ok_spread_by (T : TOk K mg f fd) : VFn P w K mg base 2 (f 27) (fd 27) ["prime", "table", "numbers"] false sp_spread_by := by
  let st : Stmt := topS 27
  let nm : List Str := ["prime", "table", "numbers", "weight", "one"]
  have sc : FnScope ["prime", "table", "numbers", "weight", "one"] ["prime", "table", "numbers"] (defScope (topS 27)) := ⟨rfl, rfl, rfl, by decide +kernel, rfl, by decide +kernel, by decide +kernel⟩
  refine vfn_of T.F_spread_by sc (by intro ds R E h; obtain ⟨_, _, _, _, _, rfl, _⟩ := h; rfl) (fun cdv A outer s H W E EK B => ⟨_, (vss_one (vs_ret (ve_mod (ve_callB (pe_callB (cr_sum rfl) (by rfl) T.b_sum (by decide +kernel) (va_cons (ve_frz (vn_lc [("weight", 3), ("one", 4)] rfl sc.nd (vi_zipG B.K rfl T.b_zip (va_cons (ve_call (pe_callV B (by decide) (ok_weights_by T) (b_weights_by T) (by rfl) T.g_weights_by T.F_weights_by.kp (va_cons (ve_var 0) (va_cons (ve_var 2) va_nil)))) (va_cons (ve_var 1) va_nil))) (blkOk_by (own := [("weight", 3), ("one", 4)]) (N := nm) (sc := defScope st) (by decide +kernel)) (fun _ _ _ _ _ => (vg_un (n := 2) B.blk.K rfl (vgs_cons (vg_name (i := 3) sc.nd rfl (Or.inl rfl)) (vgs_cons (vg_name (i := 4) sc.nd rfl (Or.inl rfl)) vgs_nil)))) (fun _ _ _ _ _ => vts_nil) (fun _ _ _ _ _ => (ve_mul (ve_var 3) (ve_var 4))))) va_nil)) (vra_sum)) (ve_var 0)))), fun ds R h => ?_⟩)
  clear B sc T nm st
  obtain ⟨p, t, d, ts, ns, rfl, ⟨hp, hp2, ht, hd, hl, ha, hb⟩, q⟩ := h
  walk_at "v"
  refine ⟨p, d, ns, rfl, ⟨hp, hp2, hd, hl, hb⟩, ?_⟩
  simp only [ht.items]
  walk_at "v"
  rw [zipL_map]
  refine compL_map _ (fun w : Int × Int => D.int (w.1 * w.2)) _ _ (fun x hx K K0 hK => ?_) ?_
  · walk_at "v"
    have := ha x.2 (List.of_mem_zip hx).2
    exact ⟨.inr ⟨by omega, by omega⟩, hK⟩
  · rw [List.nil_append, mO_asInts]
    walk_at "v"
    refine ⟨hp, ?_⟩
    simpa [dotI, List.zip, List.map_zipWith] using q
def foldI (p : Int) (ts : List Int) (n : Int) : List Int := List.zipWith (fun o l => (o + n * (l - o)) % p) (ts.take (ts.length / 2)) (ts.drop (ts.length / 2))
def sp_folded_by : VSp := fun ds R E => ∃ (p : Int) (t : D) (ts : List Int) (n : Int), ds = [.int p, t, .int n] ∧ (0 < p ∧ p < 2 ^ 60 ∧ SeqI t ts ∧ (∀ n ∈ ts, 0 ≤ n ∧ n < p) ∧ 0 ≤ n ∧ n < p) ∧ R (.lst ((foldI p ts n).map D.int))
theorem b_folded_by (T : TOk K mg f fd) : BindP K (fd 28) ["prime", "table", "number"] := bindP_fun T.F_folded_by fun _ _ _ _ _ _ us hl => match us, hl with | [_, _, _], _ => rfl
theorem ok_folded_by (T : TOk K mg f fd) : VFn P w K mg base 1 (f 28) (fd 28) ["prime", "table", "number"] true sp_folded_by := by
  let st : Stmt := topS 28
  let nm : List Str := ["prime", "table", "number", "half", "one", "late"]
  have sc : FnScope ["prime", "table", "number", "half", "one", "late"] ["prime", "table", "number"] (defScope (topS 28)) := ⟨rfl, rfl, rfl, by decide +kernel, rfl, by decide +kernel, by decide +kernel⟩
  refine vfn_of T.F_folded_by sc (by intro ds R E h; obtain ⟨_, _, _, _, rfl, _⟩ := h; rfl) (fun cdv A outer s H W E EK B => ⟨_, (vss_cons (vs_set (i := 3) sc.nd rfl (Or.inl rfl) (ve_fdiv (ve_callB (pe_callB call_len (by rfl) T.b_len PySem.boot_len (va_cons (ve_var 1) va_nil)) (vra_len B.K)) ve_int))
      (vss_one (vs_retN (vn_lc [("one", 4), ("late", 5)] rfl sc.nd (vi_zipG B.K rfl T.b_zip (va_cons (ve_sl B.K (ve_var 1) vo_none (vo_some (ve_var 3))) (va_cons (ve_sl B.K (ve_var 1) (vo_some (ve_var 3)) vo_none) va_nil))) (blkOk_by (own := [("one", 4), ("late", 5)]) (N := nm) (sc := defScope st) (by decide +kernel)) (fun _ _ _ _ _ => (vg_un (n := 2) B.blk.K rfl (vgs_cons (vg_name (i := 4) sc.nd rfl (Or.inl rfl)) (vgs_cons (vg_name (i := 5) sc.nd rfl (Or.inl rfl)) vgs_nil)))) (fun _ _ _ _ _ => vts_nil) (fun _ _ _ _ _ => (ve_mod (ve_add B.blk.K (ve_var 4) (ve_mul (ve_var 2) (ve_sub (ve_var 5) (ve_var 4)))) (ve_var 0))))))), fun ds R h => ?_⟩)
  clear B sc T nm st
  obtain ⟨p, t, ts, n, rfl, ⟨hp, hp2, ht, ha, h1, h2⟩, q⟩ := h
  have hz : (List.zip (ts.take (ts.length / 2)) (ts.drop (ts.length / 2))).map (fun w : Int × Int => D.int ((w.1 + n * (w.2 - w.1)) % p)) = (foldI p ts n).map D.int := by
    simp [foldI, List.zip, List.map_zipWith]
  rcases ht with rfl | rfl
  all_goals
    walk_at "v"
    refine ⟨by decide, ?_⟩
    rw [cutL_map, cutL_map, zipL_map, cutL_take' _ _ (by omega), cutL_drop' _ _ (by omega)]
    have e : (((ts.length : Int)) / 2).toNat = ts.length / 2 := by omega
    rw [e]
    refine compL_map _ (fun w : Int × Int => D.int ((w.1 + n * (w.2 - w.1)) % p)) _ _ (fun x hx K K0 hK => ?_) ?_
    · walk_at "v"
      exact ⟨.inl ⟨by omega, by omega⟩, hp, hK⟩
    · rw [List.nil_append, hz]
      exact q
theorem isPrimeI_lt {p : Int} (h : isPrimeI p = true) : 3 ≤ p ∧ p ≤ 9973 := by
  unfold isPrimeI at h
  have := of_decide_eq_true h
  omega
theorem digits_ok {n k : Nat} (hl : n = 2 ^ k) (hk : k ≤ 9) : (k ≤ 24 ∧ (n : Int) ≤ 2 ^ k ∧ (k = 0 ∨ 2 ^ (k - 1) < (n : Int))) := by
  rw [hl]
  refine ⟨by omega, by simp, ?_⟩
  cases k with
  | zero => exact .inl rfl
  | succ k =>
    refine .inr ?_
    have := Nat.two_pow_pos k
    rw [Nat.add_sub_cancel, Nat.pow_succ]
    push_cast
    have : (0 : Int) < 2 ^ k := by exact_mod_cast this
    omega
def sp_position_weights : VSp := fun ds R E => ∃ (p : Int) (d : D) (ns : List Int), ds = [.int p, d] ∧ (isPrimeI p = true ∧ SeqI d ns ∧ ns.length ≤ 9 ∧ ∀ n ∈ ns, 0 ≤ n ∧ n < p) ∧ R (.lst ((wts p [1] ns).map D.int))
theorem b_position_weights (T : TOk K mg f fd) : BindP K (fd 29) ["prime", "numbers"] := bindP_fun T.F_position_weights fun _ _ _ _ _ _ us hl => match us, hl with | [_, _], _ => rfl
theorem ok_position_weights (T : TOk K mg f fd) : VFn P w K mg base 6 (f 29) (fd 29) ["prime", "numbers"] false sp_position_weights := by
  let st : Stmt := topS 29
  let nm : List Str := ["prime", "numbers"]
  have sc : FnScope ["prime", "numbers"] ["prime", "numbers"] (defScope (topS 29)) := ⟨rfl, rfl, rfl, by decide +kernel, rfl, by decide +kernel, by decide +kernel⟩
  refine vfn_of T.F_position_weights sc (by intro ds R E h; obtain ⟨_, _, _, rfl, _⟩ := h; rfl) (fun cdv A outer s H W E EK B => ⟨_, (vss_cons (vs_expr (ve_call (pe_callV B (by decide) (ok_check_prime T) (b_check_prime T) (by rfl) T.g_check_prime T.F_check_prime.kp (va_cons (ve_var 0) va_nil))))
      (vss_cons (vs_expr (ve_call (pe_callV B (by decide) (ok_check_numbers T) (b_check_numbers T) (by rfl) T.g_check_numbers T.F_check_numbers.kp (va_cons (ve_var 0) (va_cons (ve_var 1) (va_cons ve_non va_nil))))))
      (vss_one (vs_ret (ve_call (pe_callV B (by decide) (ok_weights_by T) (b_weights_by T) (by rfl) T.g_weights_by T.F_weights_by.kp (va_cons (ve_var 0) (va_cons (ve_var 1) va_nil)))))))), fun ds R h => ?_⟩)
  clear B sc T nm st
  obtain ⟨p, d, ns, rfl, ⟨hp, hd, hl, hb⟩, q⟩ := h
  have hp1 := isPrimeI_lt hp
  walk_at "v"
  refine ⟨.int p, rfl, hp, ?_⟩
  refine ⟨p, d, .non, ns, rfl, ⟨by omega, hd, hl, .inl rfl, hb⟩, ?_⟩
  exact ⟨p, d, ns, rfl, ⟨by omega, by omega, hd, hl, hb⟩, q⟩
def sp_spread_value : VSp := fun ds R E => ∃ (p : Int) (t d : D) (ts ns : List Int), ds = [.int p, t, d] ∧ (isPrimeI p = true ∧ SeqI t ts ∧ SeqI d ns ∧ ts.length = 2 ^ ns.length ∧ ns.length ≤ 9 ∧ (∀ n ∈ ts, 0 ≤ n ∧ n < p) ∧ ∀ n ∈ ns, 0 ≤ n ∧ n < p) ∧ R (.int (dotI (wts p [1] ns) ts % p))
theorem b_spread_value (T : TOk K mg f fd) : BindP K (fd 30) ["prime", "table", "numbers"] := bindP_fun T.F_spread_value fun _ _ _ _ _ _ us hl => match us, hl with | [_, _, _], _ => rfl
theorem ok_spread_value (T : TOk K mg f fd) : VFn P w K mg base 7 (f 30) (fd 30) ["prime", "table", "numbers"] false sp_spread_value := by
  let st : Stmt := topS 30
  let nm : List Str := ["prime", "table", "numbers"]
  have sc : FnScope ["prime", "table", "numbers"] ["prime", "table", "numbers"] (defScope (topS 30)) := ⟨rfl, rfl, rfl, by decide +kernel, rfl, by decide +kernel, by decide +kernel⟩
  refine vfn_of T.F_spread_value sc (by intro ds R E h; obtain ⟨_, _, _, _, _, rfl, _⟩ := h; rfl) (fun cdv A outer s H W E EK B => ⟨_, (vss_cons (vs_expr (ve_call (pe_callV B (by decide) (ok_check_prime T) (b_check_prime T) (by rfl) T.g_check_prime T.F_check_prime.kp (va_cons (ve_var 0) va_nil))))
      (vss_cons (vs_expr (ve_call (pe_callV B (by decide) (ok_check_table T) (b_check_table T) (by rfl) T.g_check_table T.F_check_table.kp (va_cons (ve_var 0) (va_cons (ve_var 1) va_nil)))))
      (vss_cons (vs_expr (ve_call (pe_callV B (by decide) (ok_check_numbers T) (b_check_numbers T) (by rfl) T.g_check_numbers T.F_check_numbers.kp (va_cons (ve_var 0) (va_cons (ve_var 2) (va_cons (ve_call (pe_callV B (by decide) (ok_digits_of T) (b_digits_of T) (by rfl) T.g_digits_of T.F_digits_of.kp (va_cons (ve_callB (pe_callB call_len (by rfl) T.b_len PySem.boot_len (va_cons (ve_var 1) va_nil)) (vra_len B.K)) va_nil))) va_nil))))))
      (vss_one (vs_ret (ve_call (pe_callV B (by decide) (ok_spread_by T) (b_spread_by T) (by rfl) T.g_spread_by T.F_spread_by.kp (va_cons (ve_var 0) (va_cons (ve_var 1) (va_cons (ve_var 2) va_nil)))))))))), fun ds R h => ?_⟩)
  clear B sc T nm st
  obtain ⟨p, t, d, ts, ns, rfl, ⟨hp, ht, hd, hl2, hl, ha, hb⟩, q⟩ := h
  have hp1 := isPrimeI_lt hp
  walk_at "v"
  refine ⟨.int p, rfl, hp, ?_⟩
  refine ⟨p, t, ts, ns.length, rfl, ⟨by omega, by omega, ht, hl2, hl, ha⟩, ?_⟩
  simp only [ht.len]
  refine ⟨ts.length, ns.length, rfl, digits_ok hl2 hl, ?_⟩
  refine ⟨p, d, _, ns, rfl, ⟨by omega, hd, hl, .inr rfl, hb⟩, ?_⟩
  exact ⟨p, t, d, ts, ns, rfl, ⟨by omega, by omega, ht, hd, hl, ha, hb⟩, q⟩
def sp_folded_table : VSp := fun ds R E => ∃ (p : Int) (t : D) (ts : List Int) (n : Int) (k : Nat), ds = [.int p, t, .int n] ∧ (isPrimeI p = true ∧ SeqI t ts ∧ ts.length = 2 ^ (k + 1) ∧ k + 1 ≤ 9 ∧ (∀ n ∈ ts, 0 ≤ n ∧ n < p) ∧ 0 ≤ n ∧ n < p) ∧ R (.lst ((foldI p ts n).map D.int))
theorem b_folded_table (T : TOk K mg f fd) : BindP K (fd 31) ["prime", "table", "number"] := bindP_fun T.F_folded_table fun _ _ _ _ _ _ us hl => match us, hl with | [_, _, _], _ => rfl
theorem ok_folded_table (T : TOk K mg f fd) : VFn P w K mg base 7 (f 31) (fd 31) ["prime", "table", "number"] true sp_folded_table := by
  let st : Stmt := topS 31
  let nm : List Str := ["prime", "table", "number"]
  have sc : FnScope ["prime", "table", "number"] ["prime", "table", "number"] (defScope (topS 31)) := ⟨rfl, rfl, rfl, by decide +kernel, rfl, by decide +kernel, by decide +kernel⟩
  refine vfn_of T.F_folded_table sc (by intro ds R E h; obtain ⟨_, _, _, _, _, rfl, _⟩ := h; rfl) (fun cdv A outer s H W E EK B => ⟨_, (vss_cons (vs_expr (ve_call (pe_callV B (by decide) (ok_check_prime T) (b_check_prime T) (by rfl) T.g_check_prime T.F_check_prime.kp (va_cons (ve_var 0) va_nil))))
      (vss_cons (vs_expr (ve_call (pe_callV B (by decide) (ok_check_table T) (b_check_table T) (by rfl) T.g_check_table T.F_check_table.kp (va_cons (ve_var 0) (va_cons (ve_var 1) va_nil)))))
      (vss_cons (vs_expr (ve_call (pe_callV B (by decide) (ok_check_number T) (b_check_number T) (by rfl) T.g_check_number T.F_check_number.kp (va_cons (ve_var 0) (va_cons (ve_var 2) va_nil)))))
      (vss_cons (vs_if (vt_cmp (op_eqU B.u64) (vr_eq B.K) (ve_callB (pe_callB call_len (by rfl) T.b_len PySem.boot_len (va_cons (ve_var 1) va_nil)) (vra_len B.K)) ve_int (nomark _))
      (vss_one vs_never)
      vss_nil)
      (vss_one (vs_retN (vn_call (pe_callV B (by decide) (ok_folded_by T) (b_folded_by T) (by rfl) T.g_folded_by T.F_folded_by.kp (va_cons (ve_var 0) (va_cons (ve_var 1) (va_cons (ve_var 2) va_nil))))))))))), fun ds R h => ?_⟩)
  clear B sc T nm st
  obtain ⟨p, t, ts, n, k, rfl, ⟨hp, ht, hl2, hl, ha, h1, h2⟩, q⟩ := h
  have hp1 := isPrimeI_lt hp
  walk_at "v"
  refine ⟨.int p, rfl, hp, ?_⟩
  refine ⟨p, t, ts, k + 1, rfl, ⟨by omega, by omega, ht, hl2, hl, ha⟩, ?_⟩
  refine ⟨p, .int n, rfl, ?_, ?_⟩
  · simp only [D.within, decide_eq_true_eq]; omega
  simp only [ht.len]
  walk_at "v"
  have : ts.length ≠ 1 := by
    rw [hl2, Nat.pow_succ]
    have := Nat.two_pow_pos k
    omega
  rw [decide_eq_false (by omega)]
  walk_at "v"
  exact ⟨p, t, ts, n, rfl, ⟨by omega, by omega, ht, ha, h1, h2⟩, _, rfl, q⟩
def sp__law_pot : VSp := fun ds R E => ∃ (ns : List Int) (k : Int), ds = [.scr ns, .int k] ∧ (0 ≤ k ∧ k < 64) ∧ R .pot
theorem b__law_pot (T : TOk K mg f fd) : BindP K (fd 33) ["script", "k"] := bindP_fun T.F__law_pot fun _ _ _ _ _ _ us hl => match us, hl with | [_, _], _ => rfl
theorem ok__law_pot (T : TOk K mg f fd) : VFn P w K mg base 1 (f 33) (fd 33) ["script", "k"] false sp__law_pot := by
  let st : Stmt := topS 33
  let nm : List Str := ["script", "k", "cell"]
  have sc : FnScope ["script", "k", "cell"] ["script", "k"] (defScope (topS 33)) := ⟨rfl, rfl, rfl, by decide +kernel, rfl, by decide +kernel, by decide +kernel⟩
  refine vfn_of T.F__law_pot sc (by intro ds R E h; obtain ⟨_, _, rfl, _⟩ := h; rfl) (fun cdv A outer s H W E EK B => ⟨_, (vss_cons (vs_set (i := 2) sc.nd rfl (Or.inl rfl) (ve_ite (vt_cmp op_lt vr_lt (ve_var 1) (ve_callB (pe_callB call_len (by rfl) T.b_len PySem.boot_len (va_cons (ve_var 0) va_nil)) (vra_len B.K)) (nomark _)) (ve_callB (pe_callB call_abs (by rfl) T.b_abs (by decide +kernel) (va_cons (ve_ix B.K (ve_var 0) (ve_var 1) (fun _ _ => rfl)) va_nil)) (vra_abs)) (ve_add B.K (ve_mul ve_int (ve_var 1)) ve_int)))
      (vss_one (vs_retP (vn_lst (va_cons (ve_callB (pe_callB (call_max2 rfl) (by rfl) T.b_max (by decide +kernel) (va_cons ve_int (va_cons (ve_sub (ve_var 2) (ve_pow ve_int ve_int)) va_nil))) (vra_max2)) (va_cons (ve_add B.K (ve_mod (ve_callB (pe_callTy call_int1 (by rfl) T.b_int (by decide +kernel) (va_cons (ve_add B.K (ve_add B.K (ve_mul (ve_mod (ve_callB (pe_callTy call_int1 (by rfl) T.b_int (by decide +kernel) (va_cons (ve_var 2) va_nil)) (vra_int)) ve_int) ve_int) (ve_mul ve_int (ve_var 1))) ve_int) va_nil)) (vra_int)) ve_int) ve_int) va_nil)))))), fun ds R h => ?_⟩)
  clear B sc T nm st
  obtain ⟨ns, k, rfl, ⟨h1, h2⟩, q⟩ := h
  walk_at "v"
  have e10 : (10 : Int) ^ Int.toNat 18 = 1000000000000000000 := by decide
  by_cases h3 : k < ns.length
  · rw [if_pos (decide_eq_true h3)]
    obtain ⟨n, hn, _⟩ := atI_of ns k h1 h3
    rw [hn, mO_some, e10]
    refine ⟨by decide, by decide, .inr (by decide), .inl (by decide), by decide, ⟨?_, by omega, by omega⟩, q⟩
    split <;> split <;> omega
  · rw [if_neg (by simpa using h3), e10]
    refine ⟨.inl (by decide), by decide, by decide, .inr (by decide), .inl (by decide), by decide, ⟨?_, by omega, by omega⟩, q⟩
    split <;> omega
def sp__law_draw : VSp := fun ds R E => ∃ (m : Int), ds = [.pot, .int m] ∧ (0 < m ∧ m < 1073741824) ∧ ∀ i, 0 ≤ i → i < m → R (.int i)
theorem b__law_draw (T : TOk K mg f fd) : BindP K (fd 34) ["pot", "many"] := bindP_fun T.F__law_draw fun _ _ _ _ _ _ us hl => match us, hl with | [_, _], _ => rfl
theorem ok__law_draw (T : TOk K mg f fd) : VFn P w K mg base 1 (f 34) (fd 34) ["pot", "many"] false sp__law_draw := by
  let st : Stmt := topS 34
  let nm : List Str := ["pot", "many", "digit"]
  have sc : FnScope ["pot", "many", "digit"] ["pot", "many"] (defScope (topS 34)) := ⟨rfl, rfl, rfl, by decide +kernel, rfl, by decide +kernel, by decide +kernel⟩
  refine vfn_of T.F__law_draw sc (by intro ds R E h; obtain ⟨_, rfl, _⟩ := h; rfl) (fun cdv A outer s H W E EK B => ⟨_, (vss_cons (vs_if (vt_cmp op_gt vr_gt (ve_ixP (ve_var 0) ve_int (fun _ _ => rfl)) ve_int (nomark _))
      (vss_cons (vs_asgH (ve_callB (pe_callB call_divmod (by rfl) T.b_divmod (by decide +kernel) (va_cons (ve_ixP (ve_var 0) ve_int (fun _ _ => rfl)) (va_cons (ve_var 1) va_nil))) (vra_divmod)) (vh_un (n := 2) B.K rfl (vhs_cons (vh_put (ve_var 0) ve_int) (vhs_cons (vh_of (vg_name (i := 2) sc.nd rfl (Or.inl rfl))) vhs_nil))))
      (vss_one (vs_ret (ve_var 2))))
      vss_nil)
      (vss_cons (vs_asgH (ve_mod (ve_callB (pe_callTy call_int1 (by rfl) T.b_int (by decide +kernel) (va_cons (ve_add B.K (ve_mul (ve_ixP (ve_var 0) ve_int (fun _ _ => rfl)) ve_int) ve_int) va_nil)) (vra_int)) ve_int) (vh_put (ve_var 0) ve_int))
      (vss_one (vs_ret (ve_mod (ve_callB (pe_callTy call_int1 (by rfl) T.b_int (by decide +kernel) (va_cons (ve_fdiv (ve_mod (ve_callB (pe_callTy call_int1 (by rfl) T.b_int (by decide +kernel) (va_cons (ve_mul (ve_ixP (ve_var 0) ve_int (fun _ _ => rfl)) (ve_ixP (ve_var 0) ve_int (fun _ _ => rfl))) va_nil)) (vra_int)) ve_int) ve_int) va_nil)) (vra_int)) (ve_var 1)))))), fun ds R h => ?_⟩)
  clear B sc T nm st
  obtain ⟨m, rfl, ⟨h1, h2⟩, q⟩ := h
  walk_at "v"
  have hm : ∀ i : Int, 0 ≤ i % m ∧ i % m < m := fun i => ⟨Int.emod_nonneg _ (by omega), Int.emod_lt_of_pos _ h1⟩
  intro n hn
  by_cases h3 : 0 < n
  · rw [if_pos (decide_eq_true h3)]
    intro n hn
    exact ⟨⟨h1, h2⟩, .inl (Int.ediv_nonneg hn (by omega)), q _ (hm n).1 (hm n).2⟩
  · rw [if_neg (by simpa using h3)]
    intro n hn1 hn2
    refine ⟨.inl (by omega), by decide, .inr (by omega), ?_⟩
    intro n hn1 hn2 n' hn1' hn2'
    exact ⟨.inl (by omega), by decide, by decide, h1, q _ (hm _).1 (hm _).2⟩
def sp__law_pick : VSp := fun ds R E => ∃ (es : List D), ds = [.pot, .lst es] ∧ (0 < es.length ∧ es.length < 1073741824) ∧ ∀ e ∈ es, R e
theorem b__law_pick (T : TOk K mg f fd) : BindP K (fd 35) ["pot", "some"] := bindP_fun T.F__law_pick fun _ _ _ _ _ _ us hl => match us, hl with | [_, _], _ => rfl
theorem ok__law_pick (T : TOk K mg f fd) : VFn P w K mg base 2 (f 35) (fd 35) ["pot", "some"] false sp__law_pick := by
  let st : Stmt := topS 35
  let nm : List Str := ["pot", "some"]
  have sc : FnScope ["pot", "some"] ["pot", "some"] (defScope (topS 35)) := ⟨rfl, rfl, rfl, by decide +kernel, rfl, by decide +kernel, by decide +kernel⟩
  refine vfn_of T.F__law_pick sc (by intro ds R E h; obtain ⟨_, rfl, _⟩ := h; rfl) (fun cdv A outer s H W E EK B => ⟨_, (vss_one (vs_ret (ve_ix B.K (ve_var 1) (ve_call (pe_callV B (by decide) (ok__law_draw T) (b__law_draw T) (by rfl) T.g__law_draw T.F__law_draw.kp (va_cons (ve_var 0) (va_cons (ve_callB (pe_callB call_len (by rfl) T.b_len PySem.boot_len (va_cons (ve_var 1) va_nil)) (vra_len B.K)) va_nil)))) (fun _ _ => rfl)))), fun ds R h => ?_⟩)
  clear B sc T nm st
  obtain ⟨es, rfl, ⟨h1, h2⟩, q⟩ := h
  walk_at "v"
  refine ⟨es.length, rfl, ⟨by omega, by omega⟩, fun i hi hi2 => ?_⟩
  walk_at "v"
  obtain ⟨x, hx, hm⟩ := atI_mem es i hi hi2
  rw [hx]
  exact q x hm
end
end KL


set_option Elab.async false
set_option linter.all false
set_option maxRecDepth 100000
set_option maxHeartbeats 4000000
namespace KL
open PySem PySem.Spec PyProof.Rows L2 VL
local macro_rules | `(tactic| walk_at "v") => `(tactic| try simp only [wSeq, wNil, wBk, wCt, wDrop, wRet, wRetN, wRet0, wIf, wNever, wAsg, wSet, wSetN, wFor, gNm, eC, e1, e2, eA, aNil, aCons, eTup, nLst, eFrz, eTru, tAndW, tOrW, tNotW, tTru, eIte, eCall, nCall, eCallK, nCallK, nA, oNo, nComp, eWipe, permD, List.getD_cons_zero, List.getD_cons_succ,
  rd_var, rd_frz, rd_app, rd_ext, rd_retO, rd_par, rd_par3, rd_T, rd_chain, rd_and, rd_or, rd_not, rd_bor, rd_tbor, rd_rg1, rd_rg2, gRg1_int, gRg2_int, rd_en, gEn_lst, rd_zp, gZp_2, asItems_lst, asItems_tup, rd_some, rd_slN, rd_slO, rd_sl, gSlN_lst, gSl_lst, gSl_tup, gSl_str, rd_rev, rd_cat, rd_rep, rd_ixO, rd_tp, rd_un, gsCons_cons, gsNil_nil,
  mBl_bl, mInt_int, mLs_lst, mTp_tup, mO_some, mV_val, mOw_own, mOw_val, mOw_un, m1_1, m2_2, m3_3, mO_asInts, mO_asInts', mO_asBls,
  gAdd_int, gAdd_str, gAdd_lst, gAdd_tup, gSub_int, gMod_int, gFdiv_int, gPow_int, gMul_int, gMul_lst, gNeg_int, gLt_int, gLe_int, gGt_int, gGe_int, gEq_int, gEq_str, gEq_lst, gEq_tup, gNe_int, gNe_str, gNe_lst, gNe_tup, gIsN_, gNotN_, gIn_lst, gIn_tup, gIx_lst, gIx_tup, gIx_scr, gIx_str, gLen_lst, gLen_tup, gLen_scr, gLen_str, gSum_lst, gAll_lst, gAny_lst, gAbs_int, gMax2_int, gMin2_int, gInt_int, gInt_bl, gStrI_int, nList_lst, nList_tup, gTuple_lst, gTuple_tup, gIsi_ty, gIsi_tup, gRepr_1, wRetP, nZl, gIxP_0, gIxP_1, gPut, gDivmod_2, gSq_lst, gSq_tup, gSq_str, iSq_, gTru_non, gTru_bl, gTru_int, gTru_lst, SeqI.len, SeqI.sq, SeqI.items, SeqI.list, SeqI.tuple, D.ty, D.known, D.isNon, D.scalar, asTys,
  sizeLine_val, Nat.reduceLeDiff, startE, retEnds, List.map_cons, List.map_nil, List.length_cons, List.length_nil, List.length_map, Nat.reduceAdd, Nat.reduceSub, List.reduceReplicate, List.cons_append, List.nil_append, List.set_cons_succ, List.set_cons_zero, List.getElem?_cons_succ, List.getElem?_cons_zero, Option.map_some, List.all_cons, List.all_nil, List.any_cons, List.any_nil, if_true, if_false, Bool.false_eq_true, Bool.true_eq_false, true_and, and_true, reduceIte, Bool.and_true, Bool.true_and, Bool.not_true, Bool.not_false, Bool.and_self, Bool.not_not, decide_true, decide_false])
section
variable {P : Program} {w : World} {K : PySem.W.Frag} {mg : Str → Option Value} {base : Heap} {f : Nat → Addr} {fd : Nat → FuncData}
/-- the table of all products -/
def prodT (p : Int) : List Int → List (Int × Int) → List Int
  | found, [] => found
  | found, w :: ns => prodT p (found.flatMap fun one => [(one * w.1) % p, (one * w.2) % p]) ns
theorem prodT_length (p : Int) : ∀ (ns : List (Int × Int)) (found : List Int), (prodT p found ns).length = found.length * 2 ^ ns.length
  | [], found => by simp [prodT]
  | n :: ns, found => by
    unfold prodT
    rw [prodT_length p ns, flatMap2_length, List.length_cons, Nat.pow_succ]
    ac_rfl
theorem wts_prodT (p : Int) : ∀ (ns found : List Int), wts p found ns = prodT p found (ns.map fun n => (1 - n, n))
  | [], found => rfl
  | n :: ns, found => by
    unfold wts
    rw [wts_prodT p ns, List.map_cons, prodT]
def sp__law_products : VSp := fun ds R E => ∃ (p : Int) (ns : List (Int × Int)), ds = [.int p, .lst (ns.map fun w => .tup [.int w.1, .int w.2])] ∧ (0 < p ∧ p < 2 ^ 60 ∧ ns.length ≤ 9 ∧ ∀ n ∈ ns, (-p < n.1 ∧ n.1 ≤ p) ∧ 0 ≤ n.2 ∧ n.2 < p) ∧ R (.lst ((prodT p [1] ns).map D.int))
theorem b__law_products (T : TOk K mg f fd) : BindP K (fd 36) ["p", "pairs"] := bindP_fun T.F__law_products fun _ _ _ _ _ _ us hl => match us, hl with | [_, _], _ => rfl
theorem ok__law_products (T : TOk K mg f fd) : VFn P w K mg base 1 (f 36) (fd 36) ["p", "pairs"] false sp__law_products := by
  let st : Stmt := topS 36
  let nm : List Str := ["p", "pairs", "found", "near", "far", "late", "one"]
  have sc : FnScope ["p", "pairs", "found", "near", "far", "late", "one"] ["p", "pairs"] (defScope (topS 36)) := ⟨rfl, rfl, rfl, by decide +kernel, rfl, by decide +kernel, by decide +kernel⟩
  refine vfn_of T.F__law_products sc (by intro ds R E h; obtain ⟨_, _, rfl, _⟩ := h; rfl) (fun cdv A outer s H W E EK B => ⟨_, (vss_cons (vs_set (i := 2) sc.nd rfl (Or.inl rfl) (ve_frz (vn_lst (va_cons ve_int va_nil))))
      (vss_cons (vs_for (passes_of rfl) rfl (vi_seq B.K (ve_var 1)) (vg_un (n := 2) B.K rfl (vgs_cons (vg_name (i := 3) sc.nd rfl (Or.inl rfl)) (vgs_cons (vg_name (i := 4) sc.nd rfl (Or.inl rfl)) vgs_nil)))
      (vss_cons (vs_setN (i := 5) sc.nd rfl (Or.inl rfl) (vn_lst va_nil))
      (vss_cons (vs_for (passes_of rfl) rfl (vi_seq B.K (ve_var 2)) (vg_name (i := 6) sc.nd rfl (Or.inl rfl))
      (vss_one (vs_ext (i := 5) (pe_bm PySem.F.plainAttrs_list PySem.F.slot_list_extend PySem.F.type_list_extend mt_extend (pv 5) (pa_cons (ve_frz (vn_lst (va_cons (ve_mod (ve_callB (pe_callTy call_int1 (by rfl) T.b_int (by decide +kernel) (va_cons (ve_mul (ve_var 6) (ve_var 3)) va_nil)) (vra_int)) (ve_var 0)) (va_cons (ve_mod (ve_callB (pe_callTy call_int1 (by rfl) T.b_int (by decide +kernel) (va_cons (ve_mul (ve_var 6) (ve_var 4)) va_nil)) (vra_int)) (ve_var 0)) va_nil)))) pa_nil)))))
      (vss_frz 5 (vss_one (vs_set (i := 2) sc.nd rfl (Or.inl rfl) (ve_var 5)))))))
      (vss_one (vs_ret (ve_var 2))))), fun ds R h => ?_⟩)
  clear B sc T nm st
  obtain ⟨p, ns, rfl, ⟨hp, hp2, hl, hb⟩, q⟩ := h
  walk_at "v"
  refine turns_ind (fun w : Int × Int => D.tup [.int w.1, .int w.2]) (fun xs ε => ∃ (fs : List Int) (s1 s2 s3 s4 s5 : S), ε = [.val (.int p), s1, .val (.lst (fs.map D.int)), s2, s3, s4, s5] ∧ fs.length * 2 ^ xs.length ≤ 512 ∧ (∀ x ∈ xs, (-p < x.1 ∧ x.1 ≤ p) ∧ 0 ≤ x.2 ∧ x.2 < p) ∧ prodT p fs xs = prodT p [1] ns) ?_ ?_ ns _ ?_
  · rintro x xs ε K' ⟨fs, s1, s2, s3, s4, s5, rfl, h1, h2, h3⟩ hK
    walk_at "v"
    have hx := h2 x List.mem_cons_self
    have h1' : 2 * fs.length * 2 ^ xs.length ≤ 512 := by
      rw [List.length_cons, Nat.pow_succ] at h1
      have e : 2 * fs.length * 2 ^ xs.length = fs.length * (2 ^ xs.length * 2) := by ac_rfl
      omega
    have h1'' : 2 * fs.length ≤ 512 := Nat.le_trans (Nat.le_mul_of_pos_right _ (Nat.two_pow_pos _)) h1'
    refine turns_ind D.int (fun ys ε => ∃ (gs : List Int) (c : S), ε = [.val (.int p), s1, .val (.lst (fs.map D.int)), .val (.int x.1), .val (.int x.2), .own (gs.map D.int), c] ∧ gs.length + 2 * ys.length ≤ 512 ∧ gs ++ (ys.flatMap fun one => [(one * x.1) % p, (one * x.2) % p]) = fs.flatMap fun one => [(one * x.1) % p, (one * x.2) % p]) ?_ ?_ fs _ ⟨[], _, rfl, by simpa using h1'', rfl⟩
    · rintro y ys ε K2 ⟨gs, c, rfl, g1, g2⟩ hK2
      walk_at "v"
      rw [List.length_cons] at g1
      refine ⟨.inr ⟨by omega, by omega⟩, hp, .inr ⟨by omega, by omega⟩, hp, by omega, hK2 _ ⟨gs ++ [(y * x.1) % p, (y * x.2) % p], .val (.int y), ?_, ?_, ?_⟩⟩
      · simp only [List.map_append, List.map_cons, List.map_nil]
      · simp only [List.length_append, List.length_cons, List.length_nil]; omega
      · rw [← g2, List.flatMap_cons, List.append_assoc]
    · rintro ε ⟨gs, c, rfl, g1, g2⟩
      walk_at "v"
      rw [List.flatMap_nil, List.append_nil] at g2
      refine hK _ ⟨gs, _, _, _, _, _, rfl, ?_, fun z hz => h2 z (List.mem_cons_of_mem _ hz), ?_⟩
      · rw [g2, flatMap2_length]; exact h1'
      · rw [← h3, g2, prodT.eq_2]
  · rintro ε ⟨fs, s1, s2, s3, s4, s5, rfl, h1, h2, h3⟩
    walk_at "v"
    rw [← h3, prodT.eq_1] at q
    exact q
  · refine ⟨[1], _, _, _, _, _, rfl, ?_, hb, rfl⟩
    have : 2 ^ ns.length ≤ 2 ^ 9 := Nat.pow_le_pow_right (by decide) hl
    simpa using this
/-- the table of all sums -/
def sumT (p : Int) : List Int → List Int → List Int
  | found, [] => found
  | found, w :: ns => sumT p (found.flatMap fun one => [one, (one + w) % p]) ns
theorem sumT_length (p : Int) : ∀ (ns : List Int) (found : List Int), (sumT p found ns).length = found.length * 2 ^ ns.length
  | [], found => by simp [sumT]
  | n :: ns, found => by
    unfold sumT
    rw [sumT_length p ns, flatMap2_length, List.length_cons, Nat.pow_succ]
    ac_rfl
def sp__law_sums : VSp := fun ds R E => ∃ (p b : Int) (ns : List Int), ds = [.int p, .int b, .lst (ns.map D.int)] ∧ (0 < p ∧ ns.length ≤ 9) ∧ R (.lst ((sumT p [b] ns).map D.int))
theorem b__law_sums (T : TOk K mg f fd) : BindP K (fd 37) ["p", "base", "shares"] := bindP_fun T.F__law_sums fun _ _ _ _ _ _ us hl => match us, hl with | [_, _, _], _ => rfl
theorem ok__law_sums (T : TOk K mg f fd) : VFn P w K mg base 1 (f 37) (fd 37) ["p", "base", "shares"] false sp__law_sums := by
  let st : Stmt := topS 37
  let nm : List Str := ["p", "base", "shares", "found", "share", "late", "one"]
  have sc : FnScope ["p", "base", "shares", "found", "share", "late", "one"] ["p", "base", "shares"] (defScope (topS 37)) := ⟨rfl, rfl, rfl, by decide +kernel, rfl, by decide +kernel, by decide +kernel⟩
  refine vfn_of T.F__law_sums sc (by intro ds R E h; obtain ⟨_, _, _, rfl, _⟩ := h; rfl) (fun cdv A outer s H W E EK B => ⟨_, (vss_cons (vs_set (i := 3) sc.nd rfl (Or.inl rfl) (ve_frz (vn_lst (va_cons (ve_var 1) va_nil))))
      (vss_cons (vs_for (passes_of rfl) rfl (vi_seq B.K (ve_var 2)) (vg_name (i := 4) sc.nd rfl (Or.inl rfl))
      (vss_cons (vs_setN (i := 5) sc.nd rfl (Or.inl rfl) (vn_lst va_nil))
      (vss_cons (vs_for (passes_of rfl) rfl (vi_seq B.K (ve_var 3)) (vg_name (i := 6) sc.nd rfl (Or.inl rfl))
      (vss_one (vs_ext (i := 5) (pe_bm PySem.F.plainAttrs_list PySem.F.slot_list_extend PySem.F.type_list_extend mt_extend (pv 5) (pa_cons (ve_frz (vn_lst (va_cons (ve_var 6) (va_cons (ve_mod (ve_callB (pe_callTy call_int1 (by rfl) T.b_int (by decide +kernel) (va_cons (ve_add B.K (ve_var 6) (ve_var 4)) va_nil)) (vra_int)) (ve_var 0)) va_nil)))) pa_nil)))))
      (vss_frz 5 (vss_one (vs_set (i := 3) sc.nd rfl (Or.inl rfl) (ve_var 5)))))))
      (vss_one (vs_ret (ve_var 3))))), fun ds R h => ?_⟩)
  clear B sc T nm st
  obtain ⟨p, b, ns, rfl, ⟨hp, hl⟩, q⟩ := h
  walk_at "v"
  refine turns_ind D.int (fun xs ε => ∃ (fs : List Int) (s1 s2 s3 s4 s5 : S), ε = [.val (.int p), s1, s2, .val (.lst (fs.map D.int)), s3, s4, s5] ∧ fs.length * 2 ^ xs.length ≤ 512 ∧ sumT p fs xs = sumT p [b] ns) ?_ ?_ ns _ ?_
  · rintro x xs ε K' ⟨fs, s1, s2, s3, s4, s5, rfl, h1, h3⟩ hK
    walk_at "v"
    have h1' : 2 * fs.length * 2 ^ xs.length ≤ 512 := by
      rw [List.length_cons, Nat.pow_succ] at h1
      have e : 2 * fs.length * 2 ^ xs.length = fs.length * (2 ^ xs.length * 2) := by ac_rfl
      omega
    have h1'' : 2 * fs.length ≤ 512 := Nat.le_trans (Nat.le_mul_of_pos_right _ (Nat.two_pow_pos _)) h1'
    refine turns_ind D.int (fun ys ε => ∃ (gs : List Int) (c : S), ε = [.val (.int p), s1, s2, .val (.lst (fs.map D.int)), .val (.int x), .own (gs.map D.int), c] ∧ gs.length + 2 * ys.length ≤ 512 ∧ gs ++ (ys.flatMap fun one => [one, (one + x) % p]) = fs.flatMap fun one => [one, (one + x) % p]) ?_ ?_ fs _ ⟨[], _, rfl, by simpa using h1'', rfl⟩
    · rintro y ys ε K2 ⟨gs, c, rfl, g1, g2⟩ hK2
      walk_at "v"
      rw [List.length_cons] at g1
      refine ⟨hp, by omega, hK2 _ ⟨gs ++ [y, (y + x) % p], .val (.int y), ?_, ?_, ?_⟩⟩
      · simp only [List.map_append, List.map_cons, List.map_nil]
      · simp only [List.length_append, List.length_cons, List.length_nil]; omega
      · rw [← g2, List.flatMap_cons, List.append_assoc]
    · rintro ε ⟨gs, c, rfl, g1, g2⟩
      walk_at "v"
      rw [List.flatMap_nil, List.append_nil] at g2
      refine hK _ ⟨gs, _, _, _, _, _, rfl, ?_, ?_⟩
      · rw [g2, flatMap2_length]; exact h1'
      · rw [← h3, g2, sumT.eq_2]
  · rintro ε ⟨fs, s1, s2, s3, s4, s5, rfl, h1, h3⟩
    walk_at "v"
    rw [← h3, sumT.eq_1] at q
    exact q
  · refine ⟨[b], _, _, _, _, _, rfl, ?_, rfl⟩
    have : 2 ^ ns.length ≤ 2 ^ 9 := Nat.pow_le_pow_right (by decide) hl
    simpa using this
end
end KL


set_option Elab.async false
set_option linter.all false
set_option maxRecDepth 100000
set_option maxHeartbeats 4000000
namespace KL
open PySem PySem.Spec PyProof.Rows L2 VL
local macro_rules | `(tactic| walk_at "v") => `(tactic| try simp only [wSeq, wNil, wBk, wCt, wDrop, wRet, wRetN, wRet0, wIf, wNever, wAsg, wSet, wSetN, wFor, gNm, eC, e1, e2, eA, aNil, aCons, eTup, nLst, eFrz, eTru, tAndW, tOrW, tNotW, tTru, eIte, eCall, nCall, eCallK, nCallK, nA, oNo, nComp, eWipe, permD, List.getD_cons_zero, List.getD_cons_succ,
  rd_var, rd_frz, rd_app, rd_ext, rd_retO, rd_par, rd_par3, rd_T, rd_chain, rd_and, rd_or, rd_not, rd_bor, rd_tbor, rd_rg1, rd_rg2, gRg1_int, gRg2_int, rd_en, gEn_lst, rd_zp, gZp_2, asItems_lst, asItems_tup, rd_some, rd_slN, rd_slO, rd_sl, gSlN_lst, gSl_lst, gSl_tup, gSl_str, rd_rev, rd_cat, rd_rep, rd_ixO, rd_tp, rd_un, gsCons_cons, gsNil_nil,
  mBl_bl, mInt_int, mLs_lst, mTp_tup, mO_some, mV_val, mOw_own, mOw_val, mOw_un, m1_1, m2_2, m3_3, mO_asInts, mO_asInts', mO_asBls,
  gAdd_int, gAdd_str, gAdd_lst, gAdd_tup, gSub_int, gMod_int, gFdiv_int, gPow_int, gMul_int, gMul_lst, gNeg_int, gLt_int, gLe_int, gGt_int, gGe_int, gEq_int, gEq_str, gEq_lst, gEq_tup, gNe_int, gNe_str, gNe_lst, gNe_tup, gIsN_, gNotN_, gIn_lst, gIn_tup, gIx_lst, gIx_tup, gIx_scr, gIx_str, gLen_lst, gLen_tup, gLen_scr, gLen_str, gSum_lst, gAll_lst, gAny_lst, gAbs_int, gMax2_int, gMin2_int, gInt_int, gInt_bl, gStrI_int, nList_lst, nList_tup, gTuple_lst, gTuple_tup, gIsi_ty, gIsi_tup, gRepr_1, wRetP, nZl, gIxP_0, gIxP_1, gPut, gDivmod_2, gSq_lst, gSq_tup, gSq_str, iSq_, gTru_non, gTru_bl, gTru_int, gTru_lst, SeqI.len, SeqI.sq, SeqI.items, SeqI.list, SeqI.tuple, D.ty, D.known, D.isNon, D.scalar, asTys,
  sizeLine_val, Nat.reduceLeDiff, startE, retEnds, List.map_cons, List.map_nil, List.length_cons, List.length_nil, List.length_map, Nat.reduceAdd, Nat.reduceSub, List.reduceReplicate, List.cons_append, List.nil_append, List.set_cons_succ, List.set_cons_zero, List.getElem?_cons_succ, List.getElem?_cons_zero, Option.map_some, List.all_cons, List.all_nil, List.any_cons, List.any_nil, if_true, if_false, Bool.false_eq_true, Bool.true_eq_false, true_and, and_true, reduceIte, Bool.and_true, Bool.true_and, Bool.not_true, Bool.not_false, Bool.and_self, Bool.not_not, decide_true, decide_false])
section
variable {P : Program} {w : World} {K : PySem.W.Frag} {mg : Str → Option Value} {base : Heap} {f : Nat → Addr} {fd : Nat → FuncData}
/-- the value of the table at the numbers, unlowered -/
def mle : List Int → List Int → Int
  | [], ts => ts.headD 0
  | n :: ns, ts => (1 - n) * mle ns (ts.take (ts.length / 2)) + n * mle ns (ts.drop (ts.length / 2))
theorem mle_app (n : Int) (ns as bs : List Int) (h : as.length = bs.length) : mle (n :: ns) (as ++ bs) = (1 - n) * mle ns as + n * mle ns bs := by
  have e : (as ++ bs).length / 2 = as.length := by rw [List.length_append]; omega
  rw [mle, e, List.take_left, List.drop_left]
theorem half {α : Type} {ts : List α} {k : Nat} (h : ts.length = 2 ^ (k + 1)) : ∃ as bs, ts = as ++ bs ∧ as.length = 2 ^ k ∧ bs.length = 2 ^ k := by
  refine ⟨ts.take (2 ^ k), ts.drop (2 ^ k), (List.take_append_drop _ _).symm, ?_, ?_⟩
  · rw [List.length_take, h, Nat.pow_succ]; omega
  · rw [List.length_drop, h, Nat.pow_succ]; omega
/-- mixing two tables -/
theorem mle_mix (p a b : Int) (f : Int → Int → Int) (hf : ∀ x y, Cg p (f x y) (a * x + b * y)) : ∀ (ns xs ys : List Int), xs.length = 2 ^ ns.length → ys.length = 2 ^ ns.length → Cg p (mle ns (List.zipWith f xs ys)) (a * mle ns xs + b * mle ns ys)
  | [], xs, ys, h1, h2 => by
    obtain ⟨x, rfl⟩ : ∃ x, xs = [x] := List.length_eq_one_iff.mp h1
    obtain ⟨y, rfl⟩ : ∃ y, ys = [y] := List.length_eq_one_iff.mp h2
    exact hf x y
  | n :: ns, xs, ys, h1, h2 => by
    obtain ⟨x1, x2, rfl, a1, a2⟩ := half h1
    obtain ⟨y1, y2, rfl, b1, b2⟩ := half h2
    rw [List.zipWith_append (by rw [a1, b1]), mle_app _ _ _ _ (by simp; omega), mle_app _ _ _ _ (by omega), mle_app _ _ _ _ (by omega)]
    have i1 := mle_mix p a b f hf ns x1 y1 a1 b1
    have i2 := mle_mix p a b f hf ns x2 y2 a2 b2
    refine (((Cg.refl p (1 - n)).mul i1).add ((Cg.refl p n).mul i2)).trans (.of_eq ?_)
    grind
theorem prodT_app (p : Int) : ∀ (ws : List (Int × Int)) (a b : List Int), prodT p (a ++ b) ws = prodT p a ws ++ prodT p b ws
  | [], a, b => rfl
  | w :: ws, a, b => by rw [prodT, List.flatMap_append, prodT_app p ws, prodT, prodT]
theorem prodT_one (p c : Int) (w : Int × Int) (ws : List (Int × Int)) : prodT p [c] (w :: ws) = prodT p [(c * w.1) % p] ws ++ prodT p [(c * w.2) % p] ws := by
  rw [prodT, ← prodT_app]; rfl
def prodV (p : Int) : Int → List (Int × Int) → List Int → Int
  | c, w :: ws, n :: ns => prodV p ((c * (w.1 + (w.2 - w.1) * n)) % p) ws ns
  | c, _, _ => c
def prodU : List (Int × Int) → List Int → Int
  | w :: ws, n :: ns => (w.1 + (w.2 - w.1) * n) * prodU ws ns
  | _, _ => 1
theorem prodV_cg (p : Int) : ∀ (ws : List (Int × Int)) (ns : List Int) (c : Int), Cg p (prodV p c ws ns) (c * prodU ws ns)
  | [], _, c => .of_eq (by simp [prodV, prodU])
  | _ :: _, [], c => .of_eq (by simp [prodV, prodU])
  | w :: ws, n :: ns, c => by
    rw [prodV, prodU]
    refine (prodV_cg p ws ns _).trans (((Cg.mod p _).mul (.refl p _)).trans (.of_eq (by grind)))
theorem prodV_range (p : Int) (hp : 0 < p) : ∀ (ws : List (Int × Int)) (ns : List Int) (c : Int), 0 ≤ c → c < p → 0 ≤ prodV p c ws ns ∧ prodV p c ws ns < p
  | [], _, c, h1, h2 => by simpa [prodV] using ⟨h1, h2⟩
  | _ :: _, [], c, h1, h2 => by simpa [prodV] using ⟨h1, h2⟩
  | w :: ws, n :: ns, c, h1, h2 => by
    rw [prodV]
    exact prodV_range p hp ws ns _ (Int.emod_nonneg _ (by omega)) (Int.emod_lt_of_pos _ hp)
theorem mle_prodT (p : Int) : ∀ (ws : List (Int × Int)) (ns : List Int) (c : Int), ws.length = ns.length → Cg p (mle ns (prodT p [c] ws)) (c * prodU ws ns)
  | [], [], c, _ => .of_eq (by simp [mle, prodT, prodU])
  | w :: ws, n :: ns, c, h => by
    have h' : ws.length = ns.length := by simpa using h
    rw [prodT_one, mle_app _ _ _ _ (by rw [prodT_length, prodT_length]; rfl), prodU]
    have i1 := mle_prodT p ws ns ((c * w.1) % p) h'
    have i2 := mle_prodT p ws ns ((c * w.2) % p) h'
    refine (((Cg.refl p (1 - n)).mul (i1.trans ((Cg.mod p _).mul (.refl p _)))).add ((Cg.refl p n).mul (i2.trans ((Cg.mod p _).mul (.refl p _))))).trans (.of_eq ?_)
    grind
theorem prodT_range (p : Int) (hp : 0 < p) : ∀ (ws : List (Int × Int)) (fs : List Int), (∀ x ∈ fs, 0 ≤ x ∧ x < p) → ∀ x ∈ prodT p fs ws, 0 ≤ x ∧ x < p
  | [], fs, h => h
  | w :: ws, fs, h => by
    rw [prodT]
    refine prodT_range p hp ws _ fun x hx => ?_
    obtain ⟨y, _, hy⟩ := List.mem_flatMap.mp hx
    have := fun z : Int => And.intro (Int.emod_nonneg z (show p ≠ 0 by omega)) (Int.emod_lt_of_pos z hp)
    simp at hy
    rcases hy with rfl | rfl <;> exact this _
theorem dotI_app (a b c d : List Int) (h : a.length = c.length) : dotI (a ++ b) (c ++ d) = dotI a c + dotI b d := by
  unfold dotI
  rw [List.zipWith_append h, List.sum_append]
theorem dot_wts (p : Int) : ∀ (ns ts : List Int) (c : Int), ts.length = 2 ^ ns.length → Cg p (dotI (wts p [c] ns) ts) (c * mle ns ts)
  | [], ts, c, h => by
    obtain ⟨x, rfl⟩ : ∃ x, ts = [x] := List.length_eq_one_iff.mp h
    exact .of_eq (by simp [wts, dotI, mle])
  | n :: ns, ts, c, h => by
    obtain ⟨x1, x2, rfl, a1, a2⟩ := half h
    have e : wts p [c] (n :: ns) = wts p [(c * (1 - n)) % p] ns ++ wts p [(c * n) % p] ns := by
      rw [wts_prodT, wts_prodT, wts_prodT, List.map_cons, prodT_one]
    rw [e, dotI_app _ _ _ _ (by rw [wts_length, a1]; simp), mle_app _ _ _ _ (by omega)]
    have i1 := dot_wts p ns x1 ((c * (1 - n)) % p) a1
    have i2 := dot_wts p ns x2 ((c * n) % p) a2
    refine ((i1.trans ((Cg.mod p _).mul (.refl p _))).add (i2.trans ((Cg.mod p _).mul (.refl p _)))).trans (.of_eq ?_)
    grind
theorem sumT_app (p : Int) : ∀ (ws a b : List Int), sumT p (a ++ b) ws = sumT p a ws ++ sumT p b ws
  | [], a, b => rfl
  | w :: ws, a, b => by rw [sumT, List.flatMap_append, sumT_app p ws, sumT, sumT]
theorem sumT_range (p : Int) (hp : 0 < p) : ∀ (ws fs : List Int), (∀ x ∈ fs, 0 ≤ x ∧ x < p) → ∀ x ∈ sumT p fs ws, 0 ≤ x ∧ x < p
  | [], fs, h => h
  | w :: ws, fs, h => by
    rw [sumT]
    refine sumT_range p hp ws _ fun x hx => ?_
    obtain ⟨y, hy1, hy⟩ := List.mem_flatMap.mp hx
    simp at hy
    rcases hy with rfl | rfl
    · exact h _ hy1
    · exact ⟨Int.emod_nonneg _ (by omega), Int.emod_lt_of_pos _ hp⟩
theorem mle_sumT (p : Int) : ∀ (ws ns : List Int) (c : Int), ws.length = ns.length → Cg p (mle ns (sumT p [c] ws)) (c + (List.zipWith (fun x y => x * y) ws ns).sum)
  | [], [], c, _ => .of_eq (by simp [mle, sumT])
  | w :: ws, n :: ns, c, h => by
    have h' : ws.length = ns.length := by simpa using h
    have e : sumT p [c] (w :: ws) = sumT p [c] ws ++ sumT p [(c + w) % p] ws := by rw [sumT, ← sumT_app]; rfl
    rw [e, mle_app _ _ _ _ (by rw [sumT_length, sumT_length]; rfl), List.zipWith_cons_cons, List.sum_cons]
    have i1 := mle_sumT p ws ns c h'
    have i2 := mle_sumT p ws ns ((c + w) % p) h'
    refine (((Cg.refl p (1 - n)).mul i1).add ((Cg.refl p n).mul (i2.trans ((Cg.mod p _).add (.refl p _))))).trans (.of_eq ?_)
    grind
theorem mle_zero : ∀ (ns : List Int) (k : Nat), mle ns (List.replicate k 0) = 0
  | [], 0 => rfl
  | [], _ + 1 => rfl
  | n :: ns, k => by
    rw [mle, List.take_replicate, List.drop_replicate, mle_zero ns, mle_zero ns]
    grind
structure Good (p : Int) (m : Nat) (ts ns : List Int) (v : Int) : Prop where
  lt : ts.length = 2 ^ m
  ln : ns.length = m
  bt : ∀ t ∈ ts, 0 ≤ t ∧ t < p
  bn : ∀ n ∈ ns, 0 ≤ n ∧ n < p
  v : v = mle ns ts % p
end
end KL


set_option Elab.async false
set_option linter.all false
set_option maxRecDepth 100000
set_option maxHeartbeats 4000000
namespace KL
open PySem PySem.Spec PyProof.Rows L2 VL
local macro_rules | `(tactic| walk_at "v") => `(tactic| try simp only [wSeq, wNil, wBk, wCt, wDrop, wRet, wRetN, wRet0, wIf, wNever, wAsg, wSet, wSetN, wFor, gNm, eC, e1, e2, eA, aNil, aCons, eTup, nLst, eFrz, eTru, tAndW, tOrW, tNotW, tTru, eIte, eCall, nCall, eCallK, nCallK, nA, oNo, nComp, eWipe, permD, List.getD_cons_zero, List.getD_cons_succ,
  rd_var, rd_frz, rd_app, rd_ext, rd_retO, rd_par, rd_par3, rd_T, rd_chain, rd_and, rd_or, rd_not, rd_bor, rd_tbor, rd_rg1, rd_rg2, gRg1_int, gRg2_int, rd_en, gEn_lst, rd_zp, gZp_2, asItems_lst, asItems_tup, rd_some, rd_slN, rd_slO, rd_sl, gSlN_lst, gSl_lst, gSl_tup, gSl_str, rd_rev, rd_cat, rd_rep, rd_ixO, rd_tp, rd_un, gsCons_cons, gsNil_nil,
  mBl_bl, mInt_int, mLs_lst, mTp_tup, mO_some, mV_val, mOw_own, mOw_val, mOw_un, m1_1, m2_2, m3_3, mO_asInts, mO_asInts', mO_asBls,
  gAdd_int, gAdd_str, gAdd_lst, gAdd_tup, gSub_int, gMod_int, gFdiv_int, gPow_int, gMul_int, gMul_lst, gNeg_int, gLt_int, gLe_int, gGt_int, gGe_int, gEq_int, gEq_str, gEq_lst, gEq_tup, gNe_int, gNe_str, gNe_lst, gNe_tup, gIsN_, gNotN_, gIn_lst, gIn_tup, gIx_lst, gIx_tup, gIx_scr, gIx_str, gLen_lst, gLen_tup, gLen_scr, gLen_str, gSum_lst, gAll_lst, gAny_lst, gAbs_int, gMax2_int, gMin2_int, gInt_int, gInt_bl, gStrI_int, nList_lst, nList_tup, gTuple_lst, gTuple_tup, gIsi_ty, gIsi_tup, gRepr_1, wRetP, nZl, gIxP_0, gIxP_1, gPut, gDivmod_2, gSq_lst, gSq_tup, gSq_str, iSq_, gTru_non, gTru_bl, gTru_int, gTru_lst, SeqI.len, SeqI.sq, SeqI.items, SeqI.list, SeqI.tuple, D.ty, D.known, D.isNon, D.scalar, asTys,
  sizeLine_val, Nat.reduceLeDiff, startE, retEnds, List.map_cons, List.map_nil, List.length_cons, List.length_nil, List.length_map, Nat.reduceAdd, Nat.reduceSub, List.reduceReplicate, List.cons_append, List.nil_append, List.set_cons_succ, List.set_cons_zero, List.getElem?_cons_succ, List.getElem?_cons_zero, Option.map_some, List.all_cons, List.all_nil, List.any_cons, List.any_nil, if_true, if_false, Bool.false_eq_true, Bool.true_eq_false, true_and, and_true, reduceIte, Bool.and_true, Bool.true_and, Bool.not_true, Bool.not_false, Bool.and_self, Bool.not_not, decide_true, decide_false])
section
variable {P : Program} {w : World} {K : PySem.W.Frag} {mg : Str → Option Value} {base : Heap} {f : Nat → Addr} {fd : Nat → FuncData}
theorem rangeL_nat (m : Nat) : rangeL 0 (m : Int) = (List.range m).map fun (k : Nat) => D.int (k : Int) := by rw [rangeL_def]; rfl
def gD (p : Int) : Prop := 0 < p ∧ p < 1073741824
def sp__law_case : VSp := fun ds R E => ∃ (p : Int) (m : Nat), ds = [.pot, .int p, .int m] ∧ (3 ≤ p ∧ p ≤ 9973 ∧ m ≤ 9) ∧ ∀ ts ns v, Good p m ts ns v → R (.tup [.lst (ts.map D.int), .lst (ns.map D.int), .int v])
theorem b__law_case (T : TOk K mg f fd) : BindP K (fd 38) ["pot", "p", "many"] := bindP_fun T.F__law_case fun _ _ _ _ _ _ us hl => match us, hl with | [_, _, _], _ => rfl
theorem ok__law_case (T : TOk K mg f fd) : VFn P w K mg base 3 (f 38) (fd 38) ["pot", "p", "many"] false sp__law_case := by
  let st : Stmt := topS 38
  let nm : List Str := ["pot", "p", "many", "way", "turn", "numbers", "pairs", "value", "near", "far", "number", "base", "shares", "much", "digits", "table", "digit", "share"]
  have sc : FnScope ["pot", "p", "many", "way", "turn", "numbers", "pairs", "value", "near", "far", "number", "base", "shares", "much", "digits", "table", "digit", "share"] ["pot", "p", "many"] (defScope (topS 38)) := ⟨rfl, rfl, rfl, by decide +kernel, rfl, by decide +kernel, by decide +kernel⟩
  refine vfn_of T.F__law_case sc (by intro ds R E h; obtain ⟨_, _, rfl, _⟩ := h; rfl) (fun cdv A outer s H W E EK B => ⟨_, (vss_cons (vs_set (i := 3) sc.nd rfl (Or.inl rfl) (ve_call (pe_callV B (by decide) (ok__law_draw T) (b__law_draw T) (by rfl) T.g__law_draw T.F__law_draw.kp (va_cons (ve_var 0) (va_cons ve_int va_nil)))))
      (vss_cons (vs_setLc (i := 5) [("turn", 4)] rfl sc.nd rfl rfl (sw_true rfl rfl rfl (by decide +kernel)) (vi_range1 (es := []) rfl T.b_range (va_cons (ve_var 2) va_nil)) (blkOk_by (own := [("turn", 4)]) (N := nm) (sc := defScope st) (by decide +kernel)) (fun _ _ _ _ _ => (vg_name (i := 4) sc.nd rfl (Or.inl rfl))) (fun _ _ _ _ _ => vts_nil) (fun _ _ _ _ _ => (ve_call (pe_callV B.blk (by decide) (ok__law_pick T) (b__law_pick T) (by rfl) T.g__law_pick T.F__law_pick.kp (va_cons (ve_var 0) (va_cons (ve_frz (vn_lst (va_cons ve_int (va_cons ve_int (va_cons (ve_sub (ve_var 1) ve_int) (va_cons (ve_call (pe_callV B.blk (by decide) (ok__law_draw T) (b__law_draw T) (by rfl) T.g__law_draw T.F__law_draw.kp (va_cons (ve_var 0) (va_cons (ve_var 1) va_nil)))) (va_cons (ve_call (pe_callV B.blk (by decide) (ok__law_draw T) (b__law_draw T) (by rfl) T.g__law_draw T.F__law_draw.kp (va_cons (ve_var 0) (va_cons (ve_var 1) va_nil)))) va_nil))))))) va_nil))))))
      (vss_cons (vs_if (vt_cmp op_lt vr_lt (ve_var 3) ve_int (nomark _))
      (vss_cons (vs_setLc (i := 6) [("turn", 4)] rfl sc.nd rfl rfl (sw_true rfl rfl rfl (by decide +kernel)) (vi_range1 (es := []) rfl T.b_range (va_cons (ve_var 2) va_nil)) (blkOk_by (own := [("turn", 4)]) (N := nm) (sc := defScope st) (by decide +kernel)) (fun _ _ _ _ _ => (vg_name (i := 4) sc.nd rfl (Or.inl rfl))) (fun _ _ _ _ _ => vts_nil) (fun _ _ _ _ _ => (ve_tup (va_cons (ve_call (pe_callV B.blk (by decide) (ok__law_draw T) (b__law_draw T) (by rfl) T.g__law_draw T.F__law_draw.kp (va_cons (ve_var 0) (va_cons (ve_var 1) va_nil)))) (va_cons (ve_call (pe_callV B.blk (by decide) (ok__law_draw T) (b__law_draw T) (by rfl) T.g__law_draw T.F__law_draw.kp (va_cons (ve_var 0) (va_cons (ve_var 1) va_nil)))) va_nil)))))
      (vss_cons (vs_set (i := 7) sc.nd rfl (Or.inl rfl) ve_int)
      (vss_cons (vs_for (passes_of rfl) rfl (vi_zipG B.K rfl T.b_zip (va_cons (ve_var 6) (va_cons (ve_var 5) va_nil))) (vg_un (n := 2) B.K rfl (vgs_cons (vg_un (n := 2) B.K rfl (vgs_cons (vg_name (i := 8) sc.nd rfl (Or.inl rfl)) (vgs_cons (vg_name (i := 9) sc.nd rfl (Or.inl rfl)) vgs_nil))) (vgs_cons (vg_name (i := 10) sc.nd rfl (Or.inl rfl)) vgs_nil)))
      (vss_one (vs_set (i := 7) sc.nd rfl (Or.inl rfl) (ve_mod (ve_callB (pe_callTy call_int1 (by rfl) T.b_int (by decide +kernel) (va_cons (ve_mul (ve_var 7) (ve_add B.K (ve_var 8) (ve_mul (ve_sub (ve_var 9) (ve_var 8)) (ve_var 10)))) va_nil)) (vra_int)) (ve_var 1)))))
      (vss_one (vs_ret (ve_tup (va_cons (ve_call (pe_callV B (by decide) (ok__law_products T) (b__law_products T) (by rfl) T.g__law_products T.F__law_products.kp (va_cons (ve_var 1) (va_cons (ve_var 6) va_nil)))) (va_cons (ve_var 5) (va_cons (ve_var 7) va_nil)))))))))
      vss_nil)
      (vss_cons (vs_if (vt_cmp op_lt vr_lt (ve_var 3) ve_int (nomark _))
      (vss_cons (vs_par (i := 11) (j := 12) rfl sc.nd rfl rfl (by decide) rfl rfl (va_cons (ve_call (pe_callV B (by decide) (ok__law_draw T) (b__law_draw T) (by rfl) T.g__law_draw T.F__law_draw.kp (va_cons (ve_var 0) (va_cons (ve_var 1) va_nil)))) (va_cons (ve_frz (vn_lc [("turn", 4)] rfl sc.nd (vi_range1 (es := []) rfl T.b_range (va_cons (ve_var 2) va_nil)) (blkOk_by (own := [("turn", 4)]) (N := nm) (sc := defScope st) (by decide +kernel)) (fun _ _ _ _ _ => (vg_name (i := 4) sc.nd rfl (Or.inl rfl))) (fun _ _ _ _ _ => vts_nil) (fun _ _ _ _ _ => (ve_call (pe_callV B.blk (by decide) (ok__law_draw T) (b__law_draw T) (by rfl) T.g__law_draw T.F__law_draw.kp (va_cons (ve_var 0) (va_cons (ve_var 1) va_nil))))))) va_nil)) (by rfl))
      (vss_cons (vs_if (vt_cmp (op_eqU B.u64) (vr_eq B.K) (ve_var 3) ve_int (nomark _))
      (vss_cons (vs_par3 (i := 11) (j := 12) (l := 13) rfl sc.nd rfl rfl rfl (by decide) (by decide) (by decide) rfl rfl rfl (va_cons ve_int (va_cons (ve_frz (vn_lst va_nil)) (va_cons ve_int va_nil))) (by rfl))
      (vss_one (vs_for (passes_of rfl) rfl (vi_range1 (es := []) rfl T.b_range (va_cons (ve_var 2) va_nil)) (vg_name (i := 4) sc.nd rfl (Or.inl rfl))
      (vss_one (vs_par (i := 12) (j := 13) rfl sc.nd rfl rfl (by decide) rfl rfl (va_cons (ve_add B.K (ve_frz (vn_lst (va_cons (ve_mod (ve_var 13) (ve_var 1)) va_nil))) (ve_var 12)) (va_cons (ve_mul (ve_var 13) ve_int) va_nil)) (by rfl))))))
      vss_nil)
      (vss_one (vs_ret (ve_tup (va_cons (ve_call (pe_callV B (by decide) (ok__law_sums T) (b__law_sums T) (by rfl) T.g__law_sums T.F__law_sums.kp (va_cons (ve_var 1) (va_cons (ve_var 11) (va_cons (ve_var 12) va_nil))))) (va_cons (ve_var 5) (va_cons (ve_mod (ve_callB (pe_callTy call_int1 (by rfl) T.b_int (by decide +kernel) (va_cons (ve_add B.K (ve_var 11) (ve_callB (pe_callB (cr_sum rfl) (by rfl) T.b_sum (by decide +kernel) (va_cons (ve_frz (vn_lc [("share", 17), ("number", 10)] rfl sc.nd (vi_zipG B.K rfl T.b_zip (va_cons (ve_var 12) (va_cons (ve_var 5) va_nil))) (blkOk_by (own := [("share", 17), ("number", 10)]) (N := nm) (sc := defScope st) (by decide +kernel)) (fun _ _ _ _ _ => (vg_un (n := 2) B.blk.K rfl (vgs_cons (vg_name (i := 17) sc.nd rfl (Or.inl rfl)) (vgs_cons (vg_name (i := 10) sc.nd rfl (Or.inl rfl)) vgs_nil)))) (fun _ _ _ _ _ => vts_nil) (fun _ _ _ _ _ => (ve_mul (ve_var 17) (ve_var 10))))) va_nil)) (vra_sum))) va_nil)) (vra_int)) (ve_var 1)) va_nil))))))))
      vss_nil)
      (vss_cons (vs_par (i := 14) (j := 13) rfl sc.nd rfl rfl (by decide) rfl rfl (va_cons (ve_frz (vn_lc [("turn", 4)] rfl sc.nd (vi_range1 (es := []) rfl T.b_range (va_cons (ve_var 2) va_nil)) (blkOk_by (own := [("turn", 4)]) (N := nm) (sc := defScope st) (by decide +kernel)) (fun _ _ _ _ _ => (vg_name (i := 4) sc.nd rfl (Or.inl rfl))) (fun _ _ _ _ _ => vts_nil) (fun _ _ _ _ _ => (ve_call (pe_callV B.blk (by decide) (ok__law_draw T) (b__law_draw T) (by rfl) T.g__law_draw T.F__law_draw.kp (va_cons (ve_var 0) (va_cons ve_int va_nil))))))) (va_cons (ve_call (pe_callV B (by decide) (ok__law_draw T) (b__law_draw T) (by rfl) T.g__law_draw T.F__law_draw.kp (va_cons (ve_var 0) (va_cons (ve_var 1) va_nil)))) va_nil)) (by rfl))
      (vss_cons (vs_par (i := 15) (j := 7) rfl sc.nd rfl rfl (by decide) rfl rfl (va_cons (ve_frz (vn_lst (va_cons (ve_var 13) va_nil))) (va_cons (ve_var 13) va_nil)) (by rfl))
      (vss_cons (vs_for (passes_of rfl) rfl (vi_seq B.K (ve_frz (vn_rev B.K (ve_frz (vn_listZip B.K rfl (by rfl) T.b_zip (by rfl) T.b_list (va_cons (ve_var 14) (va_cons (ve_var 5) va_nil))))))) (vg_un (n := 2) B.K rfl (vgs_cons (vg_name (i := 16) sc.nd rfl (Or.inl rfl)) (vgs_cons (vg_name (i := 10) sc.nd rfl (Or.inl rfl)) vgs_nil)))
      (vss_cons (vs_set (i := 15) sc.nd rfl (Or.inl rfl) (ve_ite (vt_cmp (op_eqU B.u64) (vr_eq B.K) (ve_var 16) ve_int (nomark _)) (ve_add B.K (ve_mul (ve_frz (vn_lst (va_cons ve_int va_nil))) (ve_callB (pe_callB call_len (by rfl) T.b_len PySem.boot_len (va_cons (ve_var 15) va_nil)) (vra_len B.K))) (ve_var 15)) (ve_add B.K (ve_var 15) (ve_mul (ve_frz (vn_lst (va_cons ve_int va_nil))) (ve_callB (pe_callB call_len (by rfl) T.b_len PySem.boot_len (va_cons (ve_var 15) va_nil)) (vra_len B.K))))))
      (vss_one (vs_set (i := 7) sc.nd rfl (Or.inl rfl) (ve_mod (ve_callB (pe_callTy call_int1 (by rfl) T.b_int (by decide +kernel) (va_cons (ve_mul (ve_var 7) (ve_ite (vt_cmp (op_eqU B.u64) (vr_eq B.K) (ve_var 16) ve_int (nomark _)) (ve_var 10) (ve_sub ve_int (ve_var 10)))) va_nil)) (vra_int)) (ve_var 1))))))
      (vss_one (vs_ret (ve_tup (va_cons (ve_var 15) (va_cons (ve_var 5) (va_cons (ve_var 7) va_nil))))))))))))), fun ds R h => ?_⟩)
  clear B sc T nm st
  obtain ⟨p, m, rfl, ⟨hp, hp2, hm⟩, q⟩ := h
  have hpp : 0 < p := by omega
  walk_at "v"
  refine ⟨5, rfl, by decide, fun way hw1 hw2 => ⟨by omega, by omega, ?_⟩⟩
  rw [rangeL_nat]
  refine compL_any _ D.int (fun n => 0 ≤ n ∧ n < p) _ _ (fun x hx K K0 hK => ?_) fun ns hns hnb => ?_
  · walk_at "v"
    refine ⟨p, rfl, ⟨by omega, by omega⟩, fun a ha1 ha2 => ?_⟩
    walk_at "v"
    refine ⟨p, rfl, ⟨by omega, by omega⟩, fun b hb1 hb2 => ?_⟩
    walk_at "v"
    refine ⟨_, rfl, ⟨by simp, by simp⟩, fun e he => ?_⟩
    have he' : e = .int 0 ∨ e = .int 1 ∨ e = .int (p - 1) ∨ e = .int a ∨ e = .int b := by simpa using he
    rcases he' with rfl | rfl | rfl | rfl | rfl
    · exact hK _ ⟨by omega, by omega⟩
    · exact hK _ ⟨by omega, by omega⟩
    · exact hK _ ⟨by omega, by omega⟩
    · exact hK _ ⟨ha1, ha2⟩
    · exact hK _ ⟨hb1, hb2⟩
  rw [List.length_range] at hns
  rw [List.nil_append]
  walk_at "v"
  by_cases hw : way < 2
  · rw [if_pos (decide_eq_true hw)]
    refine ⟨by omega, by omega, ?_⟩
    try rw [rangeL_nat]
    refine compL_any _ (fun w : Int × Int => D.tup [.int w.1, .int w.2]) (fun w : Int × Int => (0 ≤ w.1 ∧ w.1 < p) ∧ 0 ≤ w.2 ∧ w.2 < p) _ _ (fun x hx K K0 hK => ?_) fun ws hws hwb => ?_
    · walk_at "v"
      refine ⟨p, rfl, ⟨by omega, by omega⟩, fun a ha1 ha2 => ?_⟩
      walk_at "v"
      refine ⟨p, rfl, ⟨by omega, by omega⟩, fun b hb1 hb2 => ?_⟩
      walk_at "v"
      exact hK (a, b) ⟨⟨ha1, ha2⟩, hb1, hb2⟩
    rw [List.length_range] at hws
    rw [List.nil_append, zipL_map]
    refine turns_ind (fun z : (Int × Int) × Int => D.tup [.tup [.int z.1.1, .int z.1.2], .int z.2]) (fun zs ε => ∃ (c : Int) (s1 s2 s3 : S), ε = [.val .pot, .val (.int p), .val (.int m), .val (.int way), .un, .val (.lst (ns.map D.int)), .val (.lst (ws.map fun w : Int × Int => D.tup [.int w.1, .int w.2])), .val (.int c), s1, s2, s3, .un, .un, .un, .un, .un, .un, .un] ∧ (0 ≤ c ∧ c < p) ∧ prodV p c (zs.map (·.1)) (zs.map (·.2)) = prodV p 1 ws ns ∧ ∀ z ∈ zs, 0 ≤ z.2 ∧ z.2 < p) ?_ ?_ _ _ ?_
    · rintro x xs ε K ⟨c, s1, s2, s3, rfl, hc, hv, hz⟩ hK
      walk_at "v"
      have hx2 := hz x List.mem_cons_self
      refine ⟨.inr ⟨by omega, by omega⟩, .inl ⟨by omega, by omega⟩, by omega, hK _ ⟨_, _, _, _, rfl, ⟨Int.emod_nonneg _ (by omega), Int.emod_lt_of_pos _ hpp⟩, ?_, fun z hz' => hz z (List.mem_cons_of_mem _ hz')⟩⟩
      rw [← hv, List.map_cons, List.map_cons, prodV]
    · rintro ε ⟨c, s1, s2, s3, rfl, hc, hv, hz⟩
      walk_at "v"
      refine ⟨p, ws, rfl, ⟨hpp, by omega, by omega, fun n hn => ?_⟩, ?_⟩
      · have := hwb n hn
        omega
      have hv' : c = prodV p 1 ws ns := by rw [← hv]; simp [prodV]
      refine q _ _ _ ⟨by rw [prodT_length, hws]; simp, hns, prodT_range p hpp ws [1] (by intro x hx; simp at hx; omega), hnb, ?_⟩
      rw [hv']
      have r := prodV_range p hpp ws ns 1 (by omega) (by omega)
      exact ((prodV_cg p ws ns 1).trans (mle_prodT p ws ns 1 (by omega)).symm).eq_mod r.1 r.2
    · refine ⟨1, _, _, _, rfl, ⟨by omega, by omega⟩, ?_⟩
      rw [List.map_fst_zip (by omega), List.map_snd_zip (by omega)]
      exact ⟨rfl, fun z hz => hnb _ (List.of_mem_zip hz).2⟩
  rw [if_neg (by simpa using hw)]
  by_cases hw4 : way < 4
  · rw [if_pos (decide_eq_true hw4)]
    refine ⟨p, rfl, ⟨by omega, by omega⟩, fun base hb1 hb2 => ⟨by omega, by omega, ?_⟩⟩
    try rw [rangeL_nat]
    refine compL_any _ D.int (fun n => 0 ≤ n ∧ n < p) _ _ (fun x hx K K0 hK => ?_) fun ws hws hwb => ?_
    · walk_at "v"
      refine ⟨p, rfl, ⟨by omega, by omega⟩, fun a ha1 ha2 => hK a ⟨ha1, ha2⟩⟩
    rw [List.length_range] at hws
    rw [List.nil_append]
    walk_at "v"
    have fin : ∀ (b : Int) (ws : List Int), 0 ≤ b → b < p → ws.length = m → R (.tup [.lst ((sumT p [b] ws).map D.int), .lst (ns.map D.int), .int ((b + (List.zipWith (fun x y => x * y) ws ns).sum) % p)]) := by
      intro b ws h1 h2 h3
      refine q _ _ _ ⟨by rw [sumT_length, h3]; simp, hns, sumT_range p hpp ws [b] (by intro x hx; simp at hx; omega), hnb, ?_⟩
      exact (mle_sumT p ws ns b (by omega)).symm.emod
    have hmap : ∀ ws : List Int, (ws.zip ns).map (fun w : Int × Int => w.1 * w.2) = List.zipWith (fun x y => x * y) ws ns := fun ws => by simp [List.zip, List.map_zipWith]
    by_cases hw3 : way = 3
    · rw [if_pos (decide_eq_true hw3)]
      refine ⟨by omega, by omega, ?_⟩
      try rw [rangeL_nat]
      refine turns_ind (fun k : Nat => D.int (k : Int)) (fun zs ε => ∃ (ss : List Int) (u : Int) (s1 : S), ε = [.val .pot, .val (.int p), .val (.int m), .val (.int way), s1, .val (.lst (ns.map D.int)), .un, .un, .un, .un, .un, .val (.int 0), .val (.lst (ss.map D.int)), .val (.int u), .un, .un, .un, .un] ∧ ss.length + zs.length = m) ?_ ?_ _ _ ?_
      · rintro x xs ε K ⟨ss, u, s1, rfl, hz⟩ hK
        walk_at "v"
        rw [List.length_cons] at hz
        exact ⟨hpp, by omega, .inr ⟨by omega, by omega⟩, hK _ ⟨(u % p) :: ss, _, _, rfl, by rw [List.length_cons]; omega⟩⟩
      · rintro ε ⟨ss, u, s1, rfl, hz⟩
        walk_at "v"
        refine ⟨p, 0, ss, rfl, ⟨hpp, by simpa [hz] using (show ss.length ≤ 9 by simp at hz; omega)⟩, ?_⟩
        walk_at "v"
        rw [zipL_map]
        refine compL_map _ (fun w : Int × Int => D.int (w.1 * w.2)) _ _ (fun x hx K K0 hK => ?_) ?_
        · walk_at "v"
          have := hnb x.2 (List.of_mem_zip hx).2
          exact ⟨.inr ⟨by omega, by omega⟩, hK⟩
        · rw [List.nil_append, mO_asInts, hmap]
          walk_at "v"
          exact ⟨hpp, fin 0 ss (by omega) hpp (by simpa using hz)⟩
      · exact ⟨[], 1, _, rfl, by simp⟩
    · rw [if_neg (by simpa using hw3)]
      refine ⟨p, base, ws, rfl, ⟨hpp, by omega⟩, ?_⟩
      walk_at "v"
      rw [zipL_map]
      refine compL_map _ (fun w : Int × Int => D.int (w.1 * w.2)) _ _ (fun x hx K K0 hK => ?_) ?_
      · walk_at "v"
        have := hnb x.2 (List.of_mem_zip hx).2
        exact ⟨.inr ⟨by omega, by omega⟩, hK⟩
      · rw [List.nil_append, mO_asInts, hmap]
        walk_at "v"
        exact ⟨hpp, fin base ws hb1 hb2 hws⟩
  rw [if_neg (by simpa using hw4)]
  refine ⟨by omega, by omega, ?_⟩
  try rw [rangeL_nat]
  refine compL_any _ D.int (fun n => 0 ≤ n ∧ n < 2) _ _ (fun x hx K K0 hK => ?_) fun ws hws hwb => ?_
  · walk_at "v"
    refine ⟨2, rfl, ⟨by omega, by omega⟩, fun a ha1 ha2 => hK a ⟨ha1, ha2⟩⟩
  rw [List.length_range] at hws
  rw [List.nil_append]
  walk_at "v"
  refine ⟨p, rfl, ⟨by omega, by omega⟩, fun much hb1 hb2 => ?_⟩
  walk_at "v"
  rw [zipL_map, ← List.map_reverse]
  refine turns_ind (fun w : Int × Int => D.tup [.int w.1, .int w.2]) (fun zs ε => ∃ (ts sf : List Int) (v : Int) (s1 s2 : S), ε = [.val .pot, .val (.int p), .val (.int m), .val (.int way), .un, .val (.lst (ns.map D.int)), .un, .val (.int v), .un, .un, s1, .un, .un, .val (.int much), .val (.lst (ws.map D.int)), .val (.lst (ts.map D.int)), s2, .un] ∧ ts.length = 2 ^ sf.length ∧ (zs.map (·.2)).reverse ++ sf = ns ∧ (0 ≤ v ∧ v < p) ∧ v = mle sf ts % p ∧ (∀ t ∈ ts, 0 ≤ t ∧ t < p) ∧ ∀ z ∈ zs, (0 ≤ z.2 ∧ z.2 < p)) ?_ ?_ _ _ ?_
  · rintro x xs ε K ⟨ts, sf, v, s1, s2, rfl, hl, hsf, hv, hm', hb, hz⟩ hK
    walk_at "v"
    have hrep : ∀ k : Nat, (List.replicate (Int.toNat (k : Int)) [D.int 0]).flatten = (List.replicate k (0 : Int)).map D.int := fun k => by rw [Int.toNat_natCast, List.flatten_replicate_singleton, List.map_replicate]
    have hll : ts.length ≤ 512 := by
      have : sf.length ≤ 9 := by
        have := congrArg List.length hsf
        rw [List.length_append] at this
        omega
      rw [hl]
      exact Nat.pow_le_pow_right (n := 2) (j := 9) (by decide) this
    have hx := hz x List.mem_cons_self
    have hsf' : (xs.map (·.2)).reverse ++ (x.2 :: sf) = ns := by rw [← hsf, List.map_cons, List.reverse_cons, List.append_assoc]; rfl
    have rng : ∀ z : Int, 0 ≤ z % p ∧ z % p < p := fun z => ⟨Int.emod_nonneg z (by omega), Int.emod_lt_of_pos z hpp⟩
    have h2 : ts.length + ts.length = 2 ^ (sf.length + 1) := by rw [hl, Nat.pow_succ]; omega
    have h0 : ∀ t ∈ List.replicate ts.length (0 : Int), 0 ≤ t ∧ t < p := fun t ht => by rw [List.eq_of_mem_replicate ht]; omega
    by_cases hd : x.1 = 1
    · rw [if_pos (decide_eq_true hd), if_pos (decide_eq_true hd), hrep, List.length_map, List.length_replicate, ← List.map_append]
      refine ⟨by omega, by omega, .inl (by omega), hpp, hK _ ⟨_, x.2 :: sf, _, _, _, rfl, ?_, hsf', rng _, ?_, fun t ht => ?_, fun z hz' => hz z (List.mem_cons_of_mem _ hz')⟩⟩
      · rw [List.length_append, List.length_replicate, List.length_cons, h2]
      · rw [mle_app _ _ _ _ (by simp), mle_zero, hm']
        exact (((Cg.mod p _).mul (.refl p _)).trans (.of_eq (by grind))).emod
      · rcases List.mem_append.mp ht with ht | ht
        · exact h0 t ht
        · exact hb t ht
    · rw [if_neg (by simpa using hd), if_neg (by simpa using hd), hrep, List.length_map, List.length_replicate, ← List.map_append]
      refine ⟨by omega, by omega, .inl (by omega), hpp, hK _ ⟨_, x.2 :: sf, _, _, _, rfl, ?_, hsf', rng _, ?_, fun t ht => ?_, fun z hz' => hz z (List.mem_cons_of_mem _ hz')⟩⟩
      · rw [List.length_append, List.length_replicate, List.length_cons, h2]
      · rw [mle_app _ _ _ _ (by simp), mle_zero, hm']
        exact (((Cg.mod p _).mul (.refl p _)).trans (.of_eq (by grind))).emod
      · rcases List.mem_append.mp ht with ht | ht
        · exact hb t ht
        · exact h0 t ht
  · rintro ε ⟨ts, sf, v, s1, s2, rfl, hl, hsf, hv, hm', hb, hz⟩
    walk_at "v"
    have e : sf = ns := by simpa using hsf
    subst e
    exact q _ _ _ ⟨by rw [hl, hns], hns, hb, hnb, hm'⟩
  · refine ⟨[much], [], much, _, _, rfl, rfl, ?_, ⟨hb1, hb2⟩, ?_, ?_, ?_⟩
    · rw [List.map_reverse, List.reverse_reverse, List.map_snd_zip (by omega), List.append_nil]
    · simp [mle]; exact (Int.emod_eq_of_lt hb1 hb2).symm
    · intro t ht; simp at ht; omega
    · intro z hz
      exact hnb _ (List.of_mem_zip (List.mem_reverse.mp hz)).2
end
end KL


set_option Elab.async false
set_option linter.all false
set_option maxRecDepth 100000
set_option maxHeartbeats 4000000
namespace KL
open PySem PySem.Spec PyProof.Rows L2 VL
local macro_rules | `(tactic| walk_at "v") => `(tactic| try simp only [wSeq, wNil, wBk, wCt, wDrop, wRet, wRetN, wRet0, wIf, wNever, wAsg, wSet, wSetN, wFor, gNm, eC, e1, e2, eA, aNil, aCons, eTup, nLst, eFrz, eTru, tAndW, tOrW, tNotW, tTru, eIte, eCall, nCall, eCallK, nCallK, nA, oNo, nComp, eWipe, permD, List.getD_cons_zero, List.getD_cons_succ,
  rd_var, rd_frz, rd_app, rd_ext, rd_retO, rd_par, rd_par3, rd_T, rd_chain, rd_and, rd_or, rd_not, rd_bor, rd_tbor, rd_rg1, rd_rg2, gRg1_int, gRg2_int, rd_en, gEn_lst, rd_zp, gZp_2, asItems_lst, asItems_tup, rd_some, rd_slN, rd_slO, rd_sl, gSlN_lst, gSl_lst, gSl_tup, gSl_str, rd_rev, rd_cat, rd_rep, rd_ixO, rd_tp, rd_un, gsCons_cons, gsNil_nil,
  mBl_bl, mInt_int, mLs_lst, mTp_tup, mO_some, mV_val, mOw_own, mOw_val, mOw_un, m1_1, m2_2, m3_3, mO_asInts, mO_asInts', mO_asBls,
  gAdd_int, gAdd_str, gAdd_lst, gAdd_tup, gSub_int, gMod_int, gFdiv_int, gPow_int, gMul_int, gMul_lst, gNeg_int, gLt_int, gLe_int, gGt_int, gGe_int, gEq_int, gEq_str, gEq_lst, gEq_tup, gNe_int, gNe_str, gNe_lst, gNe_tup, gIsN_, gNotN_, gIn_lst, gIn_tup, gIx_lst, gIx_tup, gIx_scr, gIx_str, gLen_lst, gLen_tup, gLen_scr, gLen_str, gSum_lst, gAll_lst, gAny_lst, gAbs_int, gMax2_int, gMin2_int, gInt_int, gInt_bl, gStrI_int, nList_lst, nList_tup, gTuple_lst, gTuple_tup, gIsi_ty, gIsi_tup, gRepr_1, wRetP, nZl, gIxP_0, gIxP_1, gPut, gDivmod_2, gSq_lst, gSq_tup, gSq_str, iSq_, gTru_non, gTru_bl, gTru_int, gTru_lst, SeqI.len, SeqI.sq, SeqI.items, SeqI.list, SeqI.tuple, D.ty, D.known, D.isNon, D.scalar, asTys,
  sizeLine_val, Nat.reduceLeDiff, startE, retEnds, List.map_cons, List.map_nil, List.length_cons, List.length_nil, List.length_map, Nat.reduceAdd, Nat.reduceSub, List.reduceReplicate, List.cons_append, List.nil_append, List.set_cons_succ, List.set_cons_zero, List.getElem?_cons_succ, List.getElem?_cons_zero, Option.map_some, List.all_cons, List.all_nil, List.any_cons, List.any_nil, if_true, if_false, Bool.false_eq_true, Bool.true_eq_false, true_and, and_true, reduceIte, Bool.and_true, Bool.true_and, Bool.not_true, Bool.not_false, Bool.and_self, Bool.not_not, decide_true, decide_false])
section
variable {P : Program} {w : World} {K : PySem.W.Frag} {mg : Str → Option Value} {base : Heap} {f : Nat → Addr} {fd : Nat → FuncData}
def sp__law_folded_right : VSp := fun ds R E => ∃ (p : Int) (m : Nat) (ts ns : List Int) (v : Int), ds = [.int p, .lst (ts.map D.int), .lst (ns.map D.int), .int v] ∧ (isPrimeI p = true ∧ m ≤ 9 ∧ Good p m ts ns v) ∧ R (.bl true)
theorem b__law_folded_right (T : TOk K mg f fd) : BindP K (fd 39) ["p", "table", "numbers", "value"] := bindP_fun T.F__law_folded_right fun _ _ _ _ _ _ us hl => match us, hl with | [_, _, _, _], _ => rfl
theorem ok__law_folded_right (T : TOk K mg f fd) : VFn P w K mg base 8 (f 39) (fd 39) ["p", "table", "numbers", "value"] false sp__law_folded_right := by
  let st : Stmt := topS 39
  let nm : List Str := ["p", "table", "numbers", "value", "here", "number", "half", "late", "told", "one", "other"]
  have sc : FnScope ["p", "table", "numbers", "value", "here", "number", "half", "late", "told", "one", "other"] ["p", "table", "numbers", "value"] (defScope (topS 39)) := ⟨rfl, rfl, rfl, by decide +kernel, rfl, by decide +kernel, by decide +kernel⟩
  refine vfn_of T.F__law_folded_right sc (by intro ds R E h; obtain ⟨_, _, _, _, _, rfl, _⟩ := h; rfl) (fun cdv A outer s H W E EK B => ⟨_, (vss_cons (vs_set (i := 4) sc.nd rfl (Or.inl rfl) (ve_frz (vn_callB (pe_callTy call_list_of (by rfl) T.b_list (by decide +kernel) (va_cons (ve_var 1) va_nil)) (vrn_list B.K))))
      (vss_cons (vs_for (passes_of rfl) rfl (vi_seq B.K (ve_var 2)) (vg_name (i := 5) sc.nd rfl (Or.inr rfl))
      (vss_cons (vs_set (i := 6) sc.nd rfl (Or.inl rfl) (ve_fdiv (ve_callB (pe_callB call_len (by rfl) T.b_len PySem.boot_len (va_cons (ve_var 4) va_nil)) (vra_len B.K)) ve_int))
      (vss_cons (vs_setLc (i := 7) [("one", 9), ("other", 10)] rfl sc.nd rfl rfl (sw_true rfl rfl rfl (by decide +kernel)) (vi_zipG B.K rfl T.b_zip (va_cons (ve_sl B.K (ve_var 4) vo_none (vo_some (ve_var 6))) (va_cons (ve_sl B.K (ve_var 4) (vo_some (ve_var 6)) vo_none) va_nil))) (blkOk_by (own := [("one", 9), ("other", 10)]) (N := nm) (sc := defScope st) (by decide +kernel)) (fun _ _ _ _ _ => (vg_un (n := 2) B.blk.K rfl (vgs_cons (vg_name (i := 9) sc.nd rfl (Or.inl rfl)) (vgs_cons (vg_name (i := 10) sc.nd rfl (Or.inl rfl)) vgs_nil)))) (fun _ _ _ _ _ => vts_nil) (fun _ _ _ _ _ => (ve_mod (ve_callB (pe_callTy call_int1 (by rfl) T.b_int (by decide +kernel) (va_cons (ve_add B.blk.K (ve_mul (ve_var 9) (ve_sub ve_int (ve_var 5))) (ve_mul (ve_var 10) (ve_var 5))) va_nil)) (vra_int)) (ve_var 0))))
      (vss_cons (vs_setN (i := 8) sc.nd rfl (Or.inl rfl) (vn_call (pe_callV B (by decide) (ok_folded_table T) (b_folded_table T) (by rfl) T.g_folded_table T.F_folded_table.kp (va_cons (ve_var 0) (va_cons (ve_frz (vn_callB (pe_callTy call_list_of (by rfl) T.b_list (by decide +kernel) (va_cons (ve_var 4) va_nil)) (vrn_list B.K))) (va_cons (ve_var 5) va_nil))))))
      (vss_cons (vs_if (vt_bor 8 (vt_cmp (op_neU B.u64) (vr_ne B.K) (ve_callB (pe_callB (call_reprD B.gd B.u64) (by rfl) T.b_repr (by decide +kernel) (va_cons (ve_frz (vn_lst (va_cons (ve_var 8) (va_cons (ve_frz (vn_callK (pe_callV0K B (by decide) (ok_folded_table T) (bindK_fun (ks := ["number", "table", "prime"]) (n := 0) (perm := [2, 1, 0]) T.F_folded_table (fun _ _ _ _ _ _ us ws h1 h2 => match us, ws, h1, h2 with | [], [_, _, _], _, _ => rfl)) (by rfl) T.g_folded_table T.F_folded_table.kp (vk_cons (ve_var 5) (vk_cons (ve_callB (pe_callTy call_tuple_of (by rfl) T.b_tuple (by decide +kernel) (va_cons (ve_var 4) va_nil)) (vra_tuple B.K)) (vk_cons (ve_var 0) vk_nil)))))) va_nil)))) va_nil)) (vra_repr B.K)) (ve_callB (pe_callB (call_reprD B.gd B.u64) (by rfl) T.b_repr (by decide +kernel) (va_cons (ve_frz (vn_lst (va_cons (ve_var 7) (va_cons (ve_var 7) va_nil)))) va_nil)) (vra_repr B.K)) (nomark _)))
      (vss_one (vs_ret ve_bl))
      vss_nil)
      (vss_cons (vs_app (i := 8) (pe_bm PySem.F.plainAttrs_list PySem.F.slot_list_append PySem.F.type_list_append mt_append (pv 8) (pa_cons ve_non pa_nil)))
      (vss_cons (vs_if (vt_cmp (op_neU B.u64) (vr_ne B.K) (ve_frz (vn_call (pe_callV B (by decide) (ok_folded_table T) (b_folded_table T) (by rfl) T.g_folded_table T.F_folded_table.kp (va_cons (ve_var 0) (va_cons (ve_frz (vn_callB (pe_callTy call_list_of (by rfl) T.b_list (by decide +kernel) (va_cons (ve_var 4) va_nil)) (vrn_list B.K))) (va_cons (ve_var 5) va_nil)))))) (ve_var 7) (nomark _))
      (vss_one (vs_ret ve_bl))
      vss_nil)
      (vss_one (vs_set (i := 4) sc.nd rfl (Or.inl rfl) (ve_var 7))))))))))
      (vss_one (vs_ret (ve_cmp (op_eqU B.u64) (vr_eq B.K) (ve_var 4) (ve_frz (vn_lst (va_cons (ve_var 3) va_nil))) (nomark _)))))), fun ds R h => ?_⟩)
  clear B sc T nm st
  obtain ⟨p, m, ts, ns, v, rfl, ⟨hp, hm, G⟩, q⟩ := h
  have hp1 := isPrimeI_lt hp
  have hpp : 0 < p := by omega
  have rng : ∀ z : Int, 0 ≤ z % p ∧ z % p < p := fun z => ⟨Int.emod_nonneg z (by omega), Int.emod_lt_of_pos z hpp⟩
  walk_at "v"
  refine turns_ind D.int (fun xs ε => ∃ (hs : List Int) (s1 s2 s3 s4 s5 s6 : S), ε = [.val (.int p), .val (.lst (ts.map D.int)), .val (.lst (ns.map D.int)), .val (.int v), .val (.lst (hs.map D.int)), s1, s2, s3, s4, s5, s6] ∧ hs.length = 2 ^ xs.length ∧ xs.length ≤ 9 ∧ (∀ t ∈ hs, 0 ≤ t ∧ t < p) ∧ (∀ t ∈ xs, 0 ≤ t ∧ t < p) ∧ v = mle xs hs % p) ?_ ?_ _ _ ?_
  · rintro x xs ε K ⟨hs, s1, s2, s3, s4, s5, s6, rfl, hl, hn, hb, hx, hv⟩ hK
    walk_at "v"
    have hx0 := hx x List.mem_cons_self
    refine ⟨by decide, ?_⟩
    have e2 : (((hs.length : Nat) : Int) / 2).toNat = hs.length / 2 := by omega
    rw [cutL_map, cutL_map, zipL_map, cutL_take' _ _ (by omega), cutL_drop' _ _ (by omega), e2]
    have hz : (List.zip (hs.take (hs.length / 2)) (hs.drop (hs.length / 2))).map (fun w : Int × Int => D.int ((w.1 * (1 - x) + w.2 * x) % p)) = (foldI p hs x).map D.int := by
      unfold foldI
      rw [List.zip, List.map_zipWith, List.map_zipWith]
      congr 1
      funext o l
      congr 2
      grind
    refine compL_map _ (fun w : Int × Int => D.int ((w.1 * (1 - x) + w.2 * x) % p)) _ _ (fun w hw K K0 hK => ?_) ?_
    · walk_at "v"
      exact ⟨.inr ⟨by omega, by omega⟩, .inr ⟨by omega, by omega⟩, hpp, hK⟩
    rw [List.nil_append, hz]
    walk_at "v"
    have hl' : hs.length = 2 ^ (xs.length + 1) := by rw [hl, List.length_cons]
    have hn' : xs.length + 1 ≤ 9 := by simpa using hn
    obtain ⟨as, bs, ehs, la, lb⟩ := half hl'
    have hh : hs.length / 2 = as.length := by rw [hl', la, Nat.pow_succ]; omega
    have ef : foldI p hs x = List.zipWith (fun o l => (o + x * (l - o)) % p) as bs := by
      unfold foldI
      rw [hh, ehs, List.take_left, List.drop_left]
    have lf : (foldI p hs x).length = 2 ^ xs.length := by rw [ef, List.length_zipWith, la, lb]; omega
    have l512 : 2 ^ xs.length ≤ 512 := Nat.pow_le_pow_right (n := 2) (j := 9) (by decide) (by omega)
    have bf : ∀ t ∈ foldI p hs x, 0 ≤ t ∧ t < p := by
      intro t ht
      rw [ef] at ht
      obtain ⟨i, h1, rfl⟩ := List.mem_iff_getElem.mp ht
      rw [List.getElem_zipWith]
      exact rng _
    have r30 : ∀ t ∈ foldI p hs x, t.natAbs < 10 ^ 30 := fun t ht => by
      have := bf t ht
      have h30 : (10 : Nat) ^ 30 = 1000000000000000000000000000000 := by decide
      omega
    have spt : ∀ (t : D) (R' : D → Prop), SeqI t hs → R' (.lst ((foldI p hs x).map D.int)) → sp_folded_table [.int p, t, .int x] R' E := fun t R' ht hR => ⟨p, t, hs, x, xs.length, rfl, ⟨hp, ht, hl', hn', hb, hx0.1, hx0.2⟩, hR⟩
    refine spt _ _ seqI_lst ⟨_, rfl, spt _ _ seqI_tup ⟨_, rfl, ?_, ?_, ?_, ?_, ?_, ?_, ?_⟩⟩
    · simp [D.okc, D.okcA]
    · simpa [D.okr, D.okrA] using r30
    · simp [D.wid, D.widA, widA_ints', lf]; omega
    · simp [D.okc, D.okcA]
    · simpa [D.okr, D.okrA] using r30
    · simp [D.wid, D.widA, widA_ints', lf]; omega
    rw [decide_eq_true rfl]
    walk_at "v"
    refine ⟨by omega, spt _ _ seqI_lst ⟨_, rfl, cmp_ints _, cmp_ints _, ?_⟩⟩
    rw [eqv_ints, decide_eq_true rfl]
    walk_at "v"
    refine hK _ ⟨_, _, _, _, _, _, _, rfl, lf, by omega, bf, fun t ht => hx t (List.mem_cons_of_mem _ ht), ?_⟩
    rw [hv, ef, ehs, mle_app _ _ _ _ (by rw [la, lb])]
    refine Cg.emod (Cg.symm ?_)
    exact (mle_mix p (1 - x) x _ (fun o l => (Cg.mod p _).trans (.of_eq (by grind))) xs as bs la lb)
  · rintro ε ⟨hs, s1, s2, s3, s4, s5, s6, rfl, hl, hn, hb, hx, hv⟩
    walk_at "v"
    obtain ⟨y, rfl⟩ : ∃ y, hs = [y] := List.length_eq_one_iff.mp hl
    have hy := hb y List.mem_cons_self
    have e : v = y := by rw [hv]; exact Int.emod_eq_of_lt hy.1 hy.2
    subst e
    refine ⟨cmp_ints [v], cmp_ints [v], ?_⟩
    have e2 : (D.lst [D.int v]).eqv (.lst [D.int v]) = true := D.eqv_refl (okc_ints [v])
    show R (.bl ((D.lst [D.int v]).eqv (.lst [D.int v])))
    rw [e2]
    exact q
  · exact ⟨ts, _, _, _, _, _, _, rfl, by rw [G.lt, G.ln], by rw [G.ln]; exact hm, G.bt, G.bn, G.v⟩
end
end KL


set_option Elab.async false
set_option linter.all false
set_option maxRecDepth 100000
set_option maxHeartbeats 4000000
namespace KL
open PySem PySem.Spec PyProof.Rows L2 VL
local macro_rules | `(tactic| walk_at "v") => `(tactic| try simp only [wSeq, wNil, wBk, wCt, wDrop, wRet, wRetN, wRet0, wIf, wNever, wAsg, wSet, wSetN, wFor, gNm, eC, e1, e2, eA, aNil, aCons, eTup, nLst, eFrz, eTru, tAndW, tOrW, tNotW, tTru, eIte, eCall, nCall, eCallK, nCallK, nA, oNo, nComp, eWipe, permD, List.getD_cons_zero, List.getD_cons_succ,
  rd_var, rd_frz, rd_app, rd_ext, rd_retO, rd_par, rd_par3, rd_T, rd_chain, rd_and, rd_or, rd_not, rd_bor, rd_tbor, rd_rg1, rd_rg2, gRg1_int, gRg2_int, rd_en, gEn_lst, rd_zp, gZp_2, asItems_lst, asItems_tup, rd_some, rd_slN, rd_slO, rd_sl, gSlN_lst, gSl_lst, gSl_tup, gSl_str, rd_rev, rd_cat, rd_rep, rd_ixO, rd_tp, rd_un, gsCons_cons, gsNil_nil,
  mBl_bl, mInt_int, mLs_lst, mTp_tup, mO_some, mV_val, mOw_own, mOw_val, mOw_un, m1_1, m2_2, m3_3, mO_asInts, mO_asInts', mO_asBls,
  gAdd_int, gAdd_str, gAdd_lst, gAdd_tup, gSub_int, gMod_int, gFdiv_int, gPow_int, gMul_int, gMul_lst, gNeg_int, gLt_int, gLe_int, gGt_int, gGe_int, gEq_int, gEq_str, gEq_lst, gEq_tup, gNe_int, gNe_str, gNe_lst, gNe_tup, gIsN_, gNotN_, gIn_lst, gIn_tup, gIx_lst, gIx_tup, gIx_scr, gIx_str, gLen_lst, gLen_tup, gLen_scr, gLen_str, gSum_lst, gAll_lst, gAny_lst, gAbs_int, gMax2_int, gMin2_int, gInt_int, gInt_bl, gStrI_int, nList_lst, nList_tup, gTuple_lst, gTuple_tup, gIsi_ty, gIsi_tup, gRepr_1, wRetP, nZl, gIxP_0, gIxP_1, gPut, gDivmod_2, gSq_lst, gSq_tup, gSq_str, iSq_, gTru_non, gTru_bl, gTru_int, gTru_lst, SeqI.len, SeqI.sq, SeqI.items, SeqI.list, SeqI.tuple, D.ty, D.known, D.isNon, D.scalar, asTys,
  sizeLine_val, Nat.reduceLeDiff, startE, retEnds, List.map_cons, List.map_nil, List.length_cons, List.length_nil, List.length_map, Nat.reduceAdd, Nat.reduceSub, List.reduceReplicate, List.cons_append, List.nil_append, List.set_cons_succ, List.set_cons_zero, List.getElem?_cons_succ, List.getElem?_cons_zero, Option.map_some, List.all_cons, List.all_nil, List.any_cons, List.any_nil, if_true, if_false, Bool.false_eq_true, Bool.true_eq_false, true_and, and_true, reduceIte, Bool.and_true, Bool.true_and, Bool.not_true, Bool.not_false, Bool.and_self, Bool.not_not, decide_true, decide_false])
section
variable {P : Program} {w : World} {K : PySem.W.Frag} {mg : Str → Option Value} {base : Heap} {f : Nat → Addr} {fd : Nat → FuncData}
theorem mle_range (p : Int) : True := trivial
/-- one place alone -/
def unitV (c : Int) : List Int → List Int
  | [] => [c]
  | d :: ds => if d = 0 then unitV c ds ++ List.replicate (2 ^ ds.length) 0 else List.replicate (2 ^ ds.length) 0 ++ unitV c ds
def plc : List Int → Nat
  | [] => 0
  | d :: ds => if d = 0 then plc ds else 2 ^ ds.length + plc ds
theorem plc_lt : ∀ ds : List Int, plc ds < 2 ^ ds.length
  | [] => by decide
  | d :: ds => by
    have := plc_lt ds
    rw [plc, List.length_cons, Nat.pow_succ]
    split <;> omega
theorem unitV_length (c : Int) : ∀ ds : List Int, (unitV c ds).length = 2 ^ ds.length
  | [] => rfl
  | d :: ds => by
    rw [unitV, List.length_cons, Nat.pow_succ]
    split <;> simp [unitV_length c ds] <;> omega
theorem unitV_eq (c : Int) : ∀ ds : List Int, unitV c ds = (List.range (2 ^ ds.length)).map fun (k : Nat) => if k = plc ds then c else 0
  | [] => by simp [unitV, plc]
  | d :: ds => by
    have hp := plc_lt ds
    refine List.ext_getElem (by rw [unitV_length]; simp) fun i h1 h2 => ?_
    rw [List.getElem_map, List.getElem_range]
    have ih := unitV_eq c ds
    have len := unitV_length c ds
    have get : ∀ j (hj : j < (unitV c ds).length), (unitV c ds)[j] = if j = plc ds then c else 0 := by
      intro j hj
      have : (unitV c ds)[j]? = some (if j = plc ds then c else 0) := by
        rw [ih, List.getElem?_map, List.getElem?_range (by rw [len] at hj; exact hj)]; rfl
      rw [List.getElem?_eq_getElem hj] at this
      exact Option.some.inj this
    by_cases hd : d = 0
    · simp only [unitV, plc, if_pos hd]
      by_cases hi : i < 2 ^ ds.length
      · rw [List.getElem_append_left (by rw [len]; exact hi)]
        exact get i _
      · rw [List.getElem_append_right (by rw [len]; omega), List.getElem_replicate, if_neg (by omega)]
    · simp only [unitV, plc, if_neg hd]
      by_cases hi : i < 2 ^ ds.length
      · rw [List.getElem_append_left (by simpa using hi), List.getElem_replicate, if_neg (by omega)]
      · rw [List.getElem_append_right (by simpa using hi), get]
        simp only [List.length_replicate]
        by_cases h : i = 2 ^ ds.length + plc ds
        · rw [if_pos h, if_pos (by omega)]
        · rw [if_neg h, if_neg (by omega)]
theorem wts_app (p : Int) : ∀ (ns a b : List Int), wts p (a ++ b) ns = wts p a ns ++ wts p b ns := fun ns a b => by
  rw [wts_prodT, wts_prodT, wts_prodT, prodT_app]
theorem wts_one (p c n : Int) (ns : List Int) : wts p [c] (n :: ns) = wts p [(c * (1 - n)) % p] ns ++ wts p [(c * n) % p] ns := by
  rw [wts_prodT, wts_prodT, wts_prodT, List.map_cons, prodT_one]
theorem wts_zero (p : Int) : ∀ ns : List Int, wts p [0] ns = List.replicate (2 ^ ns.length) 0
  | [] => rfl
  | n :: ns => by
    rw [wts_one, Int.zero_mul, Int.zero_mul, Int.zero_emod, wts_zero p ns, List.replicate_append_replicate, List.length_cons, Nat.pow_succ]
    congr 1
    omega
theorem wts_digits (p : Int) (hp : 1 < p) : ∀ ds : List Int, (∀ d ∈ ds, 0 ≤ d ∧ d < 2) → wts p [1] ds = unitV 1 ds
  | [], _ => rfl
  | d :: ds, h => by
    have ih := wts_digits p hp ds fun x hx => h x (List.mem_cons_of_mem _ hx)
    have h1 : (1 : Int) % p = 1 := Int.emod_eq_of_lt (by omega) hp
    rw [wts_one]
    have hd := h d List.mem_cons_self
    rcases (show d = 0 ∨ d = 1 by omega) with rfl | rfl
    · simp [unitV, h1, ih, wts_zero]
    · simp [unitV, h1, ih, wts_zero]
theorem mle_digits : ∀ (ds ts : List Int), (∀ d ∈ ds, 0 ≤ d ∧ d < 2) → ts.length = 2 ^ ds.length → ts[plc ds]? = some (mle ds ts)
  | [], ts, _, h => by
    obtain ⟨x, rfl⟩ : ∃ x, ts = [x] := List.length_eq_one_iff.mp h
    rfl
  | d :: ds, ts, h, hl => by
    obtain ⟨as, bs, rfl, la, lb⟩ := half hl
    have hd := h d List.mem_cons_self
    have hh := fun x hx => h x (List.mem_cons_of_mem d hx)
    have lp := plc_lt ds
    rw [mle_app _ _ _ _ (by rw [la, lb])]
    rcases (show d = 0 ∨ d = 1 by omega) with rfl | rfl
    · rw [plc, if_pos rfl, List.getElem?_append_left (by omega), mle_digits ds as hh la]
      congr 1
      grind
    · rw [plc, if_neg (by decide), List.getElem?_append_right (by omega), la, Nat.add_sub_cancel_left, mle_digits ds bs hh lb]
      congr 1
      grind
def sp__law_right : VSp := fun ds R E => ds = [.pot] ∧ R (.bl true)
theorem b__law_right (T : TOk K mg f fd) : BindP K (fd 40) ["pot"] := bindP_fun T.F__law_right fun _ _ _ _ _ _ us hl => match us, hl with | [_], _ => rfl
theorem ok__law_right (T : TOk K mg f fd) : VFn P w K mg base 9 (f 40) (fd 40) ["pot"] false sp__law_right := by
  let st : Stmt := topS 40
  let nm : List Str := ["pot", "p", "many", "one", "numbers", "value", "late", "others", "other", "due", "share", "both", "digits", "place", "digit", "turn", "number", "weight", "x", "y", "at"]
  have sc : FnScope ["pot", "p", "many", "one", "numbers", "value", "late", "others", "other", "due", "share", "both", "digits", "place", "digit", "turn", "number", "weight", "x", "y", "at"] ["pot"] (defScope (topS 40)) := ⟨rfl, rfl, rfl, by decide +kernel, rfl, by decide +kernel, by decide +kernel⟩
  refine vfn_of T.F__law_right sc (by intro ds R E h; obtain ⟨rfl, _⟩ := h; rfl) (fun cdv A outer s H W E EK B => ⟨_, (vss_cons (vs_asg (ve_tup (va_cons (ve_call (pe_callV B (by decide) (ok__law_pick T) (b__law_pick T) (by rfl) T.g__law_pick T.F__law_pick.kp (va_cons (ve_var 0) (va_cons (ve_frz (vn_lst (va_cons ve_int (va_cons ve_int (va_cons ve_int (va_cons ve_int (va_cons ve_int va_nil))))))) va_nil)))) (va_cons (ve_call (pe_callV B (by decide) (ok__law_pick T) (b__law_pick T) (by rfl) T.g__law_pick T.F__law_pick.kp (va_cons (ve_var 0) (va_cons (ve_frz (vn_lst (va_cons ve_int (va_cons ve_int (va_cons ve_int (va_cons ve_int (va_cons ve_int (va_cons ve_int (va_cons ve_int va_nil))))))))) va_nil)))) va_nil))) (vg_un (n := 2) B.K rfl (vgs_cons (vg_name (i := 1) sc.nd rfl (Or.inr rfl)) (vgs_cons (vg_name (i := 2) sc.nd rfl (Or.inr rfl)) vgs_nil))))
      (vss_cons (vs_asg (ve_frz (vn_lc [("turn", 15)] rfl sc.nd (vi_range1 (es := []) rfl T.b_range (va_cons ve_int va_nil)) (blkOk_by (own := [("turn", 15)]) (N := nm) (sc := defScope st) (by decide +kernel)) (fun _ _ _ _ _ => (vg_name (i := 15) sc.nd rfl (Or.inl rfl))) (fun _ _ _ _ _ => vts_nil) (fun _ _ _ _ _ => (ve_call (pe_callV B.blk (by decide) (ok__law_case T) (b__law_case T) (by rfl) T.g__law_case T.F__law_case.kp (va_cons (ve_var 0) (va_cons (ve_var 1) (va_cons (ve_var 2) va_nil)))))))) (vg_un (n := 2) B.K rfl (vgs_cons (vg_un (n := 3) B.K rfl (vgs_cons (vg_name (i := 3) sc.nd rfl (Or.inl rfl)) (vgs_cons (vg_name (i := 4) sc.nd rfl (Or.inl rfl)) (vgs_cons (vg_name (i := 5) sc.nd rfl (Or.inl rfl)) vgs_nil)))) (vgs_cons (vg_un (n := 3) B.K rfl (vgs_cons (vg_name (i := 6) sc.nd rfl (Or.inl rfl)) (vgs_cons (vg_name (i := 7) sc.nd rfl (Or.inl rfl)) (vgs_cons (vg_name (i := 8) sc.nd rfl (Or.inl rfl)) vgs_nil)))) vgs_nil))))
      (vss_cons (vs_if (vt_cmp (op_neU B.u64) (vr_ne B.K) (ve_callB (pe_callB (call_reprD B.gd B.u64) (by rfl) T.b_repr (by decide +kernel) (va_cons (ve_frz (vn_lst (va_cons (ve_call (pe_callV B (by decide) (ok_spread_value T) (b_spread_value T) (by rfl) T.g_spread_value T.F_spread_value.kp (va_cons (ve_var 1) (va_cons (ve_var 3) (va_cons (ve_var 4) va_nil))))) (va_cons (ve_callK (pe_callV0K B (by decide) (ok_spread_value T) (bindK_fun (ks := ["numbers", "table", "prime"]) (n := 0) (perm := [2, 1, 0]) T.F_spread_value (fun _ _ _ _ _ _ us ws h1 h2 => match us, ws, h1, h2 with | [], [_, _, _], _, _ => rfl)) (by rfl) T.g_spread_value T.F_spread_value.kp (vk_cons (ve_callB (pe_callTy call_tuple_of (by rfl) T.b_tuple (by decide +kernel) (va_cons (ve_var 4) va_nil)) (vra_tuple B.K)) (vk_cons (ve_callB (pe_callTy call_tuple_of (by rfl) T.b_tuple (by decide +kernel) (va_cons (ve_var 3) va_nil)) (vra_tuple B.K)) (vk_cons (ve_var 1) vk_nil))))) (va_cons (ve_call (pe_callV B (by decide) (ok_spread_value T) (b_spread_value T) (by rfl) T.g_spread_value T.F_spread_value.kp (va_cons (ve_var 1) (va_cons (ve_var 6) (va_cons (ve_var 7) va_nil))))) va_nil))))) va_nil)) (vra_repr B.K)) (ve_callB (pe_callB (call_reprD B.gd B.u64) (by rfl) T.b_repr (by decide +kernel) (va_cons (ve_frz (vn_lst (va_cons (ve_var 5) (va_cons (ve_var 5) (va_cons (ve_var 8) va_nil))))) va_nil)) (vra_repr B.K)) (nomark _))
      (vss_one (vs_ret ve_bl))
      vss_nil)
      (vss_cons (vs_if (vt_bool (vw_or (vt_not (vt_truth B.K (ve_call (pe_callV B (by decide) (ok__law_folded_right T) (b__law_folded_right T) (by rfl) T.g__law_folded_right T.F__law_folded_right.kp (va_cons (ve_var 1) (va_cons (ve_var 3) (va_cons (ve_var 4) (va_cons (ve_var 5) va_nil)))))))) (vw_or1 (vt_not (vt_truth B.K (ve_call (pe_callV B (by decide) (ok__law_folded_right T) (b__law_folded_right T) (by rfl) T.g__law_folded_right T.F__law_folded_right.kp (va_cons (ve_var 1) (va_cons (ve_var 6) (va_cons (ve_var 7) (va_cons (ve_var 8) va_nil)))))))))))
      (vss_one (vs_ret ve_bl))
      vss_nil)
      (vss_cons (vs_set (i := 9) sc.nd rfl (Or.inl rfl) (ve_call (pe_callV B (by decide) (ok__law_products T) (b__law_products T) (by rfl) T.g__law_products T.F__law_products.kp (va_cons (ve_var 1) (va_cons (ve_frz (vn_lc [("number", 16)] rfl sc.nd (vi_seq B.K (ve_var 4)) (blkOk_by (own := [("number", 16)]) (N := nm) (sc := defScope st) (by decide +kernel)) (fun _ _ _ _ _ => (vg_name (i := 16) sc.nd rfl (Or.inl rfl))) (fun _ _ _ _ _ => vts_nil) (fun _ _ _ _ _ => (ve_tup (va_cons (ve_sub ve_int (ve_var 16)) (va_cons (ve_var 16) va_nil)))))) va_nil)))))
      (vss_cons (vs_if (vt_cmp (op_neU B.u64) (vr_ne B.K) (ve_callB (pe_callB (call_reprD B.gd B.u64) (by rfl) T.b_repr (by decide +kernel) (va_cons (ve_frz (vn_lst (va_cons (ve_call (pe_callV B (by decide) (ok_position_weights T) (b_position_weights T) (by rfl) T.g_position_weights T.F_position_weights.kp (va_cons (ve_var 1) (va_cons (ve_var 4) va_nil)))) (va_cons (ve_callK (pe_callV0K B (by decide) (ok_position_weights T) (bindK_fun (ks := ["numbers", "prime"]) (n := 0) (perm := [1, 0]) T.F_position_weights (fun _ _ _ _ _ _ us ws h1 h2 => match us, ws, h1, h2 with | [], [_, _], _, _ => rfl)) (by rfl) T.g_position_weights T.F_position_weights.kp (vk_cons (ve_callB (pe_callTy call_tuple_of (by rfl) T.b_tuple (by decide +kernel) (va_cons (ve_var 4) va_nil)) (vra_tuple B.K)) (vk_cons (ve_var 1) vk_nil)))) va_nil)))) va_nil)) (vra_repr B.K)) (ve_callB (pe_callB (call_reprD B.gd B.u64) (by rfl) T.b_repr (by decide +kernel) (va_cons (ve_frz (vn_lst (va_cons (ve_var 9) (va_cons (ve_var 9) va_nil)))) va_nil)) (vra_repr B.K)) (nomark _))
      (vss_one (vs_ret ve_bl))
      vss_nil)
      (vss_cons (vs_if (vt_cmp (op_neU B.u64) (vr_ne B.K) (ve_mod (ve_callB (pe_callTy call_int1 (by rfl) T.b_int (by decide +kernel) (va_cons (ve_callB (pe_callB (cr_sum rfl) (by rfl) T.b_sum (by decide +kernel) (va_cons (ve_frz (vn_lc [("weight", 17), ("number", 16)] rfl sc.nd (vi_zipG B.K rfl T.b_zip (va_cons (ve_var 9) (va_cons (ve_var 3) va_nil))) (blkOk_by (own := [("weight", 17), ("number", 16)]) (N := nm) (sc := defScope st) (by decide +kernel)) (fun _ _ _ _ _ => (vg_un (n := 2) B.blk.K rfl (vgs_cons (vg_name (i := 17) sc.nd rfl (Or.inl rfl)) (vgs_cons (vg_name (i := 16) sc.nd rfl (Or.inl rfl)) vgs_nil)))) (fun _ _ _ _ _ => vts_nil) (fun _ _ _ _ _ => (ve_mul (ve_var 17) (ve_var 16))))) va_nil)) (vra_sum)) va_nil)) (vra_int)) (ve_var 1)) (ve_var 5) (nomark _))
      (vss_one (vs_ret ve_bl))
      vss_nil)
      (vss_cons (vs_set (i := 10) sc.nd rfl (Or.inr rfl) (ve_call (pe_callV B (by decide) (ok__law_draw T) (b__law_draw T) (by rfl) T.g__law_draw T.F__law_draw.kp (va_cons (ve_var 0) (va_cons (ve_var 1) va_nil)))))
      (vss_cons (vs_setLc (i := 11) [("x", 18), ("y", 19)] rfl sc.nd rfl rfl (sw_true rfl rfl rfl (by decide +kernel)) (vi_zipG B.K rfl T.b_zip (va_cons (ve_var 3) (va_cons (ve_var 6) va_nil))) (blkOk_by (own := [("x", 18), ("y", 19)]) (N := nm) (sc := defScope st) (by decide +kernel)) (fun _ _ _ _ _ => (vg_un (n := 2) B.blk.K rfl (vgs_cons (vg_name (i := 18) sc.nd rfl (Or.inl rfl)) (vgs_cons (vg_name (i := 19) sc.nd rfl (Or.inl rfl)) vgs_nil)))) (fun _ _ _ _ _ => vts_nil) (fun _ _ _ _ _ => (ve_mod (ve_callB (pe_callTy call_int1 (by rfl) T.b_int (by decide +kernel) (va_cons (ve_add B.blk.K (ve_var 18) (ve_mul (ve_var 10) (ve_var 19))) va_nil)) (vra_int)) (ve_var 1))))
      (vss_cons (vs_if (vt_cmp (op_neU B.u64) (vr_ne B.K) (ve_call (pe_callV B (by decide) (ok_spread_value T) (b_spread_value T) (by rfl) T.g_spread_value T.F_spread_value.kp (va_cons (ve_var 1) (va_cons (ve_var 11) (va_cons (ve_var 4) va_nil))))) (ve_mod (ve_callB (pe_callTy call_int1 (by rfl) T.b_int (by decide +kernel) (va_cons (ve_add B.K (ve_var 5) (ve_mul (ve_var 10) (ve_call (pe_callV B (by decide) (ok_spread_value T) (b_spread_value T) (by rfl) T.g_spread_value T.F_spread_value.kp (va_cons (ve_var 1) (va_cons (ve_var 6) (va_cons (ve_var 4) va_nil))))))) va_nil)) (vra_int)) (ve_var 1)) (nomark _))
      (vss_one (vs_ret ve_bl))
      vss_nil)
      (vss_cons (vs_setLc (i := 12) [("turn", 15)] rfl sc.nd rfl rfl (sw_true rfl rfl rfl (by decide +kernel)) (vi_range1 (es := []) rfl T.b_range (va_cons (ve_var 2) va_nil)) (blkOk_by (own := [("turn", 15)]) (N := nm) (sc := defScope st) (by decide +kernel)) (fun _ _ _ _ _ => (vg_name (i := 15) sc.nd rfl (Or.inl rfl))) (fun _ _ _ _ _ => vts_nil) (fun _ _ _ _ _ => (ve_call (pe_callV B.blk (by decide) (ok__law_draw T) (b__law_draw T) (by rfl) T.g__law_draw T.F__law_draw.kp (va_cons (ve_var 0) (va_cons ve_int va_nil))))))
      (vss_cons (vs_set (i := 13) sc.nd rfl (Or.inr rfl) ve_int)
      (vss_cons (vs_for (passes_of rfl) rfl (vi_seq B.K (ve_var 12)) (vg_name (i := 14) sc.nd rfl (Or.inl rfl))
      (vss_one (vs_set (i := 13) sc.nd rfl (Or.inr rfl) (ve_add B.K (ve_mul ve_int (ve_var 13)) (ve_var 14)))))
      (vss_one (vs_ret (ve_and (ve_cmp (op_eqU B.u64) (vr_eq B.K) (ve_frz (vn_lst (va_cons (ve_call (pe_callV B (by decide) (ok_spread_value T) (b_spread_value T) (by rfl) T.g_spread_value T.F_spread_value.kp (va_cons (ve_var 1) (va_cons (ve_var 3) (va_cons (ve_var 12) va_nil))))) (va_cons (ve_call (pe_callV B (by decide) (ok_spread_value T) (b_spread_value T) (by rfl) T.g_spread_value T.F_spread_value.kp (va_cons (ve_var 1) (va_cons (ve_var 6) (va_cons (ve_var 12) va_nil))))) va_nil)))) (ve_frz (vn_lst (va_cons (ve_ix B.K (ve_var 3) (ve_var 13) (fun _ _ => rfl)) (va_cons (ve_ix B.K (ve_var 6) (ve_var 13) (fun _ _ => rfl)) va_nil)))) (nomark _)) (ve_one (ve_cmp (op_eqU B.u64) (vr_eq B.K) (ve_call (pe_callV B (by decide) (ok_position_weights T) (b_position_weights T) (by rfl) T.g_position_weights T.F_position_weights.kp (va_cons (ve_var 1) (va_cons (ve_var 12) va_nil)))) (ve_frz (vn_lc [("at", 20)] rfl sc.nd (vi_range1 (es := []) rfl T.b_range (va_cons (ve_callB (pe_callB call_len (by rfl) T.b_len PySem.boot_len (va_cons (ve_var 3) va_nil)) (vra_len B.K)) va_nil)) (blkOk_by (own := [("at", 20)]) (N := nm) (sc := defScope st) (by decide +kernel)) (fun _ _ _ _ _ => (vg_name (i := 20) sc.nd rfl (Or.inl rfl))) (fun _ _ _ _ _ => vts_nil) (fun _ _ _ _ _ => (ve_ite (vt_cmp (op_eqU B.blk.u64) (vr_eq B.blk.K) (ve_var 20) (ve_var 13) (nomark _)) ve_int ve_int)))) (nomark _))))))))))))))))))), fun ds R h => ?_⟩)
  clear B sc T nm st
  obtain ⟨rfl, q⟩ := h
  walk_at "v"
  refine ⟨_, rfl, ⟨by simp, by simp⟩, fun e he => ?_⟩
  obtain ⟨p, rfl, hp⟩ : ∃ p, e = .int p ∧ isPrimeI p = true := by
    have he' : e = .int 3 ∨ e = .int 5 ∨ e = .int 7 ∨ e = .int 97 ∨ e = .int 9973 := by simpa using he
    rcases he' with rfl | rfl | rfl | rfl | rfl <;> exact ⟨_, rfl, by decide +kernel⟩
  clear he
  refine ⟨_, rfl, ⟨by simp, by simp⟩, fun e he => ?_⟩
  obtain ⟨m, rfl, hm⟩ : ∃ m : Nat, e = .int m ∧ m ≤ 9 := by
    have he' : e = .int 0 ∨ e = .int 1 ∨ e = .int 2 ∨ e = .int 3 ∨ e = .int 4 ∨ e = .int 6 ∨ e = .int 9 := by simpa using he
    rcases he' with rfl | rfl | rfl | rfl | rfl | rfl | rfl
    · exact ⟨0, rfl, by decide⟩
    · exact ⟨1, rfl, by decide⟩
    · exact ⟨2, rfl, by decide⟩
    · exact ⟨3, rfl, by decide⟩
    · exact ⟨4, rfl, by decide⟩
    · exact ⟨6, rfl, by decide⟩
    · exact ⟨9, rfl, by decide⟩
  clear he
  have hp1 := isPrimeI_lt hp
  have hpp : 0 < p := by omega
  have rng : ∀ z : Int, 0 ≤ z % p ∧ z % p < p := fun z => ⟨Int.emod_nonneg z (by omega), Int.emod_lt_of_pos z hpp⟩
  refine ⟨by decide, by decide, ?_⟩
  rw [rangeL_def]
  refine compL_any _ (fun w : List Int × List Int × Int => D.tup [.lst (w.1.map D.int), .lst (w.2.1.map D.int), .int w.2.2]) (fun w => Good p m w.1 w.2.1 w.2.2) _ _ (fun x hx K K0 hK => ?_) fun bs hbs hG => ?_
  · walk_at "v"
    exact ⟨p, m, rfl, ⟨hp1.1, hp1.2, hm⟩, fun ts ns v G => hK (ts, ns, v) G⟩
  have hbs' : bs.length = 2 := by rw [hbs]; rfl
  obtain ⟨⟨one, ns, v⟩, ⟨late, os, u⟩, rfl⟩ : ∃ a b, bs = [a, b] := by
    match bs, hbs' with
    | [a, b], _ => exact ⟨a, b, rfl⟩
  have G1 : Good p m one ns v := hG (one, ns, v) (by simp)
  have G2 : Good p m late os u := hG (late, os, u) (by simp)
  clear hG hbs hbs'
  walk_at "v"
  have sv : ∀ (t d : D) (ts ns : List Int) (v : Int) (R' : D → Prop) (E' : XP), SeqI t ts → SeqI d ns → Good p m ts ns v → R' (.int v) → sp_spread_value [.int p, t, d] R' E' := by
    intro t d ts ns v R' E' ht hd G hR
    refine ⟨p, t, d, ts, ns, rfl, ⟨hp, ht, hd, by rw [G.lt, G.ln], by rw [G.ln]; exact hm, G.bt, G.bn⟩, ?_⟩
    have e : dotI (wts p [1] ns) ts % p = v := by
      rw [G.v, (dot_wts p ns ts 1 (by rw [G.lt, G.ln])).emod, Int.one_mul]
    rw [e]; exact hR
  have pw : ∀ (d : D) (ns : List Int) (R' : D → Prop) (E' : XP), SeqI d ns → ns.length = m → (∀ n ∈ ns, 0 ≤ n ∧ n < p) → R' (.lst ((wts p [1] ns).map D.int)) → sp_position_weights [.int p, d] R' E' := fun d ns R' E' hd hl hb hR =>
    ⟨p, d, ns, rfl, ⟨hp, hd, by rw [hl]; exact hm, hb⟩, hR⟩
  have hv : 0 ≤ v ∧ v < p := by rw [G1.v]; exact rng _
  have hu : 0 ≤ u ∧ u < p := by rw [G2.v]; exact rng _
  have h30 : (10 : Nat) ^ 30 = 1000000000000000000000000000000 := by decide
  have r30 : ∀ z : Int, 0 ≤ z ∧ z < p → z.natAbs < 10 ^ 30 := fun z hz => by omega
  refine sv _ _ one ns v _ _ seqI_lst seqI_lst G1 (sv _ _ one ns v _ _ seqI_tup seqI_tup G1 (sv _ _ late os u _ _ seqI_lst seqI_lst G2 ?_))
  refine ⟨by simp [D.okc, D.okcA], by simp [D.okr, D.okrA]; exact ⟨r30 v hv, r30 u hu⟩, by simp [D.wid, D.widA], by simp [D.okc, D.okcA], by simp [D.okr, D.okrA]; exact ⟨r30 v hv, r30 u hu⟩, by simp [D.wid, D.widA], ?_⟩
  rw [decide_eq_true rfl]
  walk_at "v"
  refine ⟨p, m, one, ns, v, rfl, ⟨hp, hm, G1⟩, ?_⟩
  walk_at "v"
  refine ⟨p, m, late, os, u, rfl, ⟨hp, hm, G2⟩, ?_⟩
  walk_at "v"
  refine compL_map _ (fun n : Int => D.tup [.int (1 - n), .int n]) _ _ (fun x hx K K0 hK => ?_) ?_
  · walk_at "v"
    exact hK
  rw [List.nil_append]
  have hmm : (ns.map fun n : Int => D.tup [.int (1 - n), .int n]) = (ns.map fun n => (1 - n, n)).map fun w : Int × Int => D.tup [.int w.1, .int w.2] := by rw [List.map_map]; rfl
  rw [hmm]
  refine ⟨p, _, rfl, ⟨hpp, by omega, by rw [List.length_map, G1.ln]; exact hm, fun w hw => ?_⟩, ?_⟩
  · obtain ⟨n, hn, rfl⟩ := List.mem_map.mp hw
    have := G1.bn n hn
    exact ⟨⟨by show -p < 1 - n; omega, by show 1 - n ≤ p; omega⟩, this⟩
  rw [← wts_prodT]
  have lw : (wts p [1] ns).length = 2 ^ m := by rw [wts_length, G1.ln]; simp
  have l512 : 2 ^ m ≤ 512 := Nat.pow_le_pow_right (n := 2) (j := 9) (by decide) hm
  have bw : ∀ z ∈ wts p [1] ns, 0 ≤ z ∧ z < p := by
    rw [wts_prodT]
    exact prodT_range p hpp _ [1] (by intro x hx; simp at hx; omega)
  refine pw _ ns _ _ seqI_lst G1.ln G1.bn (pw _ ns _ _ seqI_tup G1.ln G1.bn ?_)
  have c1 : D.okc 20 (.lst [.lst ((wts p [1] ns).map D.int), .lst ((wts p [1] ns).map D.int)]) := by simp [D.okc, D.okcA]
  have c2 : (D.lst [.lst ((wts p [1] ns).map D.int), .lst ((wts p [1] ns).map D.int)]).okr := by
    simpa [D.okr, D.okrA] using fun z hz => r30 z (bw z hz)
  have c3 : (D.lst [.lst ((wts p [1] ns).map D.int), .lst ((wts p [1] ns).map D.int)]).wid ≤ 16777216 := by simp [D.wid, D.widA, widA_ints', lw]; omega
  refine ⟨c1, c2, c3, c1, c2, c3, ?_⟩
  rw [decide_eq_true rfl]
  walk_at "v"
  try simp only [zipL_map]
  refine compL_map _ (fun w : Int × Int => D.int (w.1 * w.2)) _ _ (fun x hx K K0 hK => ?_) ?_
  · walk_at "v"
    have := G1.bt x.2 (List.of_mem_zip hx).2
    exact ⟨.inr ⟨by omega, by omega⟩, hK⟩
  rw [List.nil_append, mO_asInts]
  refine ⟨hpp, ?_⟩
  have e1 : ((wts p [1] ns).zip one |>.map fun w : Int × Int => w.1 * w.2).sum % p = v := by
    rw [G1.v, ← show dotI (wts p [1] ns) one % p = mle ns one % p from by rw [(dot_wts p ns one 1 (by rw [G1.lt, G1.ln])).emod, Int.one_mul]]
    simp [dotI, List.zip, List.map_zipWith]
  rw [decide_eq_true e1]
  walk_at "v"
  refine ⟨p, rfl, ⟨by omega, by omega⟩, fun share hs1 hs2 => ?_⟩
  walk_at "v"
  try simp only [zipL_map]
  refine compL_map _ (fun w : Int × Int => D.int ((w.1 + share * w.2) % p)) _ _ (fun x hx K K0 hK => ?_) ?_
  · walk_at "v"
    exact ⟨.inl ⟨by omega, by omega⟩, hpp, hK⟩
  rw [List.nil_append]
  have ez : ((one.zip late).map fun w : Int × Int => D.int ((w.1 + share * w.2) % p)) = (List.zipWith (fun x y => (x + share * y) % p) one late).map D.int := by rw [List.zip, List.map_zipWith, List.map_zipWith]
  rw [ez]
  walk_at "v"
  have GB : Good p m (List.zipWith (fun x y => (x + share * y) % p) one late) ns ((v + share * (mle ns late % p)) % p) := by
    have hmx := mle_mix p 1 share (fun x y => (x + share * y) % p) (fun x y => (Cg.mod p _).trans (.of_eq (by grind))) ns one late (by rw [G1.lt, G1.ln]) (by rw [G2.lt, G1.ln])
    refine ⟨by rw [List.length_zipWith, G1.lt, G2.lt, Nat.min_self], G1.ln, fun t ht => ?_, G1.bn, ?_⟩
    · obtain ⟨i, h1, rfl⟩ := List.mem_iff_getElem.mp ht
      rw [List.getElem_zipWith]
      exact rng _
    · rw [G1.v]
      refine Cg.emod (Cg.symm (hmx.trans ?_))
      exact (((Cg.mod p _).add ((Cg.refl p share).mul (Cg.mod p _))).trans (.of_eq (by grind))).symm
  have GL : Good p m late ns (mle ns late % p) := ⟨G2.lt, G1.ln, G2.bt, G1.bn, rfl⟩
  refine sv _ _ _ ns _ _ _ seqI_lst seqI_lst GB (sv _ _ late ns _ _ _ seqI_lst seqI_lst GL ?_)
  walk_at "v"
  refine ⟨.inl ⟨by omega, by omega⟩, hpp, ?_⟩
  try rw [decide_eq_true rfl]
  walk_at "v"
  refine ⟨by omega, by omega, ?_⟩
  rw [rangeL_nat]
  refine compL_any _ D.int (fun n => 0 ≤ n ∧ n < 2) _ _ (fun x hx K K0 hK => ?_) fun ds hds hdb => ?_
  · walk_at "v"
    refine ⟨2, rfl, ⟨by omega, by omega⟩, fun a ha1 ha2 => hK a ⟨ha1, ha2⟩⟩
  rw [List.length_range] at hds
  rw [List.nil_append]
  walk_at "v"
  refine turns_ind D.int (fun xs ε => ∃ (k : Nat) (s1 : S), ε = [.val .pot, .val (.int p), .val (.int m), .val (.lst (one.map D.int)), .val (.lst (ns.map D.int)), .val (.int v), .val (.lst (late.map D.int)), .val (.lst (os.map D.int)), .val (.int u), .val (.lst ((wts p [1] ns).map D.int)), .val (.int share), .val (.lst ((List.zipWith (fun x y => (x + share * y) % p) one late).map D.int)), .val (.lst (ds.map D.int)), .val (.int k), s1, .un, .un, .un, .un, .un, .un] ∧ (∀ x ∈ xs, 0 ≤ x ∧ x < 2) ∧ 2 ^ xs.length * k + plc xs = plc ds) ?_ ?_ _ _ ?_
  · rintro x xs ε K ⟨k, s1, rfl, hx, hk⟩ hK
    walk_at "v"
    have hx0 := hx x List.mem_cons_self
    refine ⟨.inl ⟨by omega, by omega⟩, hK _ ⟨2 * k + x.toNat, .val (.int x), ?_, fun z hz => hx z (List.mem_cons_of_mem _ hz), ?_⟩⟩
    · have e : (((2 * k + x.toNat : Nat)) : Int) = 2 * k + x := by omega
      rw [e]
    · rw [← hk, List.length_cons, Nat.pow_succ, plc]
      rcases (show x = 0 ∨ x = 1 by omega) with rfl | rfl
      · simp only [if_true, Int.toNat_zero]
        grind
      · rw [if_neg (by decide), show (1 : Int).toNat = 1 from rfl]
        grind
  · rintro ε ⟨k, s1, rfl, hx, hk⟩
    walk_at "v"
    have hk' : k = plc ds := by simpa [plc] using hk
    have GD1 : Good p m one ds (mle ds one % p) := ⟨G1.lt, hds, G1.bt, fun n hn => by have := hdb n hn; omega, rfl⟩
    have GD2 : Good p m late ds (mle ds late % p) := ⟨G2.lt, hds, G2.bt, fun n hn => by have := hdb n hn; omega, rfl⟩
    have g1 := mle_digits ds one hdb (by rw [G1.lt, hds])
    have g2 := mle_digits ds late hdb (by rw [G2.lt, hds])
    have m1 := G1.bt _ (List.mem_of_getElem? g1)
    have m2' := G2.bt _ (List.mem_of_getElem? g2)
    have a1 : L2.atI (one.map D.int) (k : Int) = some (.int (mle ds one % p)) := by
      rw [L2.atI, show ixN (one.map D.int).length (k : Int) = some k from ?_]
      · simp [hk', g1, Int.emod_eq_of_lt m1.1 m1.2]
      · have := (List.getElem?_eq_some_iff.mp g1).1
        unfold ixN
        rw [if_pos (by omega), if_pos (by rw [List.length_map]; omega), Int.toNat_natCast]
    have a2 : L2.atI (late.map D.int) (k : Int) = some (.int (mle ds late % p)) := by
      rw [L2.atI, show ixN (late.map D.int).length (k : Int) = some k from ?_]
      · simp [hk', g2, Int.emod_eq_of_lt m2'.1 m2'.2]
      · have := (List.getElem?_eq_some_iff.mp g2).1
        unfold ixN
        rw [if_pos (by omega), if_pos (by rw [List.length_map]; omega), Int.toNat_natCast]
    refine sv _ _ one ds _ _ _ seqI_lst seqI_lst GD1 (sv _ _ late ds _ _ _ seqI_lst seqI_lst GD2 ?_)
    rw [a1, a2]
    walk_at "v"
    refine ⟨cmp_ints [_, _], cmp_ints [_, _], ?_⟩
    have e2 : ∀ x y : Int, (D.lst [D.int x, D.int y]).eqv (.lst [D.int x, D.int y]) = true := fun x y => D.eqv_refl (okc_ints [x, y])
    rw [e2]
    walk_at "v"
    refine pw _ ds _ _ seqI_lst hds GD1.bn ?_
    rw [G1.lt]
    refine ⟨by omega, by have := l512; omega, ?_⟩
    rw [rangeL_nat]
    refine compL_map _ (fun j : Nat => D.int (if j = plc ds then 1 else 0)) _ _ (fun x hx K K0 hK => ?_) ?_
    · walk_at "v"
      rw [hk']
      by_cases hj : x = plc ds
      · rw [if_pos hj] at hK
        rw [if_pos (by simp [hj])]
        exact hK
      · rw [if_neg hj] at hK
        rw [if_neg (by simp; omega)]
        exact hK
    · rw [List.nil_append]
      have e3 : ((List.range (2 ^ m)).map fun j : Nat => D.int (if j = plc ds then 1 else 0)) = (wts p [1] ds).map D.int := by
        rw [wts_digits p (by omega) ds hdb, unitV_eq, List.map_map, hds]; rfl
      rw [e3]
      walk_at "v"
      refine ⟨cmp_ints _, cmp_ints _, ?_⟩
      rw [eqv_ints, decide_eq_true rfl]
      exact q
  · exact ⟨0, _, rfl, hdb, by simp⟩
def sp_law : VSp := fun ds R E => ∃ (ns : List Int), ds = [.scr ns] ∧ ns.length ≤ 63 ∧ R (.bl true)
theorem b_law (T : TOk K mg f fd) : BindP K (fd 41) ["script"] := bindP_fun T.F_law fun _ _ _ _ _ _ us hl => match us, hl with | [_], _ => rfl
theorem ok_law (T : TOk K mg f fd) : VFn P w K mg base 10 (f 41) (fd 41) ["script"] false sp_law := by
  let st : Stmt := topS 41
  let nm : List Str := ["script", "k"]
  have sc : FnScope ["script", "k"] ["script"] (defScope (topS 41)) := ⟨rfl, rfl, rfl, by decide +kernel, rfl, by decide +kernel, by decide +kernel⟩
  refine vfn_of T.F_law sc (by intro ds R E h; obtain ⟨_, rfl, _⟩ := h; rfl) (fun cdv A outer s H W E EK B => ⟨_, (vss_one (vs_ret (ve_callB (pe_callB (cr_all rfl) (by rfl) T.b_all (by decide +kernel) (va_cons (ve_frz (vn_lc [("k", 1)] rfl sc.nd (vi_range1 (es := []) rfl T.b_range (va_cons (ve_callB (pe_callB (call_max2 rfl) (by rfl) T.b_max (by decide +kernel) (va_cons ve_int (va_cons (ve_callB (pe_callB (call_min2 rfl) (by rfl) T.b_min (by decide +kernel) (va_cons ve_int (va_cons (ve_callB (pe_callB call_len (by rfl) T.b_len PySem.boot_len (va_cons (ve_var 0) va_nil)) (vra_len B.K)) va_nil))) (vra_min2)) va_nil))) (vra_max2)) va_nil)) (blkOk_by (own := [("k", 1)]) (N := nm) (sc := defScope st) (by decide +kernel)) (fun _ _ _ _ _ => (vg_name (i := 1) sc.nd rfl (Or.inl rfl))) (fun _ _ _ _ _ => vts_nil) (fun _ _ _ _ _ => (ve_call (pe_callV B.blk (by decide) (ok__law_right T) (b__law_right T) (by rfl) T.g__law_right T.F__law_right.kp (va_cons (ve_call (pe_callV B.blk (by decide) (ok__law_pot T) (b__law_pot T) (by rfl) T.g__law_pot T.F__law_pot.kp (va_cons (ve_var 0) (va_cons (ve_var 1) va_nil)))) va_nil)))))) va_nil)) (vra_all)))), fun ds R h => ?_⟩)
  clear B sc T nm st
  obtain ⟨ns, rfl, hl, q⟩ := h
  walk_at "v"
  generalize hk : (if (if (ns.length : Int) < 3 then (ns.length : Int) else 3) > 1 then if (ns.length : Int) < 3 then (ns.length : Int) else 3 else 1) = k
  have h1 : 1 ≤ k ∧ k ≤ 3 := by
    rw [← hk]; split <;> split <;> omega
  refine ⟨by omega, by omega, ?_⟩
  rw [rangeL_def]
  refine compL_map _ (fun _ : Nat => D.bl true) _ _ (fun x hx K K0 hK => ?_) ?_
  · have hx' := List.mem_range.mp hx
    walk_at "v"
    refine ⟨ns, x, rfl, ⟨by omega, by omega⟩, ?_⟩
    exact ⟨rfl, hK⟩
  · rw [List.nil_append, mO_asBls]
    have e : ((List.range k.toNat).map fun _ => true).all id = true := by simp [List.all_eq_true]
    rw [e]
    exact q
end
end KL


set_option Elab.async false
set_option linter.all false
set_option maxRecDepth 100000
set_option maxHeartbeats 0
namespace KL
open PySem PySem.Spec PyProof.Rows L2 VL
def dDef (x : Str) (i : Nat) : He.DefD := ⟨(x, none), x, x, defArgs (topS i), defBody (topS i), defScope (topS i), [], []⟩
def fnL : List He.DefD := [dDef "is_integer" 11, dDef "is_within" 12, dDef "is_list" 13, dDef "least_divisor" 14, dDef "is_prime_of" 15, dDef "check_prime" 16, dDef "is_number_of" 17, dDef "check_number" 18, dDef "are_numbers" 19, dDef "digits_of" 22, dDef "is_table_of" 23, dDef "check_table" 24, dDef "check_numbers" 25, dDef "weights_by" 26, dDef "spread_by" 27, dDef "folded_by" 28, dDef "position_weights" 29, dDef "spread_value" 30, dDef "folded_table" 31, dDef "_law_pot" 33, dDef "_law_draw" 34, dDef "_law_pick" 35, dDef "_law_products" 36, dDef "_law_sums" 37, dDef "_law_case" 38, dDef "_law_folded_right" 39, dDef "_law_right" 40, dDef "law" 41]
def faL : List He.Fa := [.glo "is_integer", .glo "is_within", .glo "is_list", .glo "least_divisor", .glo "is_prime_of", .glo "check_prime", .glo "is_number_of", .glo "check_number", .glo "are_numbers", .glo "digits_of", .glo "is_table_of", .glo "check_table", .glo "check_numbers", .glo "weights_by", .glo "spread_by", .glo "folded_by", .glo "position_weights", .glo "spread_value", .glo "folded_table", .glo "_law_pot", .glo "_law_draw", .glo "_law_pick", .glo "_law_products", .glo "_law_sums", .glo "_law_case", .glo "_law_folded_right", .glo "_law_right", .glo "law", .free "abs", .free "all", .free "bool", .free "divmod", .free "int", .free "isinstance", .free "len", .free "list", .free "max", .free "min", .free "range", .free "repr", .free "sum", .free "tuple", .free "zip", .int "LEAST_PRIME" 3, .int "MOST_DIGITS" 9, .int "MOST_PRIME" 9973]
abbrev RR : PySem.W.OpenRow := PySem.W.OpenLaw.row PySem.Challenge.rw_equalruns_k85_whole_tables_by_formula
abbrev hk : PySem.W.Hook := He.hookD 4 faL fnL
def ob (s : PySem.W.SharedT) : He.AlD := He.obsDG 4 faL fnL (HandSHeadRun.getT s)
theorem ob_eq (s : PySem.W.SharedT) : ob s = hk.obs s.abs := He.obsDG_eq (HandSHeadRun.getT_eq s)
def loose0 : List Str := ["RunError", "StateError", "InvalidPrime", "InvalidNumber", "InvalidNumbers", "InvalidTable", "NoDigit", "LEAST_PRIME", "MOST_PRIME", "is_integer", "is_within", "is_list", "least_divisor", "is_prime_of", "check_prime", "is_number_of", "check_number", "are_numbers", "MOST_DIGITS", "digits_of", "is_table_of", "check_table", "check_numbers", "weights_by", "spread_by", "folded_by", "position_weights", "spread_value", "folded_table", "_law_pot"]
def loose1 : List Str := ["_law_draw", "_law_pick", "_law_products", "_law_sums", "_law_case", "_law_folded_right", "_law_right"]
def looseL : List Str := loose0 ++ loose1
theorem run (w : World) : HandSHeadRun.RunEq RR (PySem.W.view RR.prog [41]) hk ob 3000 looseL w := by
  intro os
  kernel_rfl
theorem facts {P : Program} {w : World} {K : PySem.W.Frag} {h : Heap} {mg : Str → Option Value} {f : Addr} (X : K.In h) (G : h.Ns mainGlobals mg) (hfa : mg ("law" : Str) = some (.ref f)) (c : He.SaysD faL fnL K) :
    ∃ fd : FuncData, (∀ (s : Shared) (u : Value), BindsTo s fd ⟨[u], []⟩ [("script", u)]) ∧ ∀ base : Heap, K.In base → base.Ns mainGlobals mg → VFn P w K mg base 10 f fd ["script"] false sp_law := by
  obtain ⟨fd11, F11⟩ := c.def_ 0 (d := dDef "is_integer" 11) rfl
  obtain ⟨fd12, F12⟩ := c.def_ 1 (d := dDef "is_within" 12) rfl
  obtain ⟨fd13, F13⟩ := c.def_ 2 (d := dDef "is_list" 13) rfl
  obtain ⟨fd14, F14⟩ := c.def_ 3 (d := dDef "least_divisor" 14) rfl
  obtain ⟨fd15, F15⟩ := c.def_ 4 (d := dDef "is_prime_of" 15) rfl
  obtain ⟨fd16, F16⟩ := c.def_ 5 (d := dDef "check_prime" 16) rfl
  obtain ⟨fd17, F17⟩ := c.def_ 6 (d := dDef "is_number_of" 17) rfl
  obtain ⟨fd18, F18⟩ := c.def_ 7 (d := dDef "check_number" 18) rfl
  obtain ⟨fd19, F19⟩ := c.def_ 8 (d := dDef "are_numbers" 19) rfl
  obtain ⟨fd22, F22⟩ := c.def_ 9 (d := dDef "digits_of" 22) rfl
  obtain ⟨fd23, F23⟩ := c.def_ 10 (d := dDef "is_table_of" 23) rfl
  obtain ⟨fd24, F24⟩ := c.def_ 11 (d := dDef "check_table" 24) rfl
  obtain ⟨fd25, F25⟩ := c.def_ 12 (d := dDef "check_numbers" 25) rfl
  obtain ⟨fd26, F26⟩ := c.def_ 13 (d := dDef "weights_by" 26) rfl
  obtain ⟨fd27, F27⟩ := c.def_ 14 (d := dDef "spread_by" 27) rfl
  obtain ⟨fd28, F28⟩ := c.def_ 15 (d := dDef "folded_by" 28) rfl
  obtain ⟨fd29, F29⟩ := c.def_ 16 (d := dDef "position_weights" 29) rfl
  obtain ⟨fd30, F30⟩ := c.def_ 17 (d := dDef "spread_value" 30) rfl
  obtain ⟨fd31, F31⟩ := c.def_ 18 (d := dDef "folded_table" 31) rfl
  obtain ⟨fd33, F33⟩ := c.def_ 19 (d := dDef "_law_pot" 33) rfl
  obtain ⟨fd34, F34⟩ := c.def_ 20 (d := dDef "_law_draw" 34) rfl
  obtain ⟨fd35, F35⟩ := c.def_ 21 (d := dDef "_law_pick" 35) rfl
  obtain ⟨fd36, F36⟩ := c.def_ 22 (d := dDef "_law_products" 36) rfl
  obtain ⟨fd37, F37⟩ := c.def_ 23 (d := dDef "_law_sums" 37) rfl
  obtain ⟨fd38, F38⟩ := c.def_ 24 (d := dDef "_law_case" 38) rfl
  obtain ⟨fd39, F39⟩ := c.def_ 25 (d := dDef "_law_folded_right" 39) rfl
  obtain ⟨fd40, F40⟩ := c.def_ 26 (d := dDef "_law_right" 40) rfl
  obtain ⟨fd41, F41⟩ := c.def_ 27 (d := dDef "law" 41) rfl
  have e := hfa.symm.trans (He.glo_ok X G (c.fact 27 (f := .glo "law") rfl))
  cases e
  let ff : Nat → Addr := fun i => match i with
    | 11 => He.ga K "is_integer"
    | 12 => He.ga K "is_within"
    | 13 => He.ga K "is_list"
    | 14 => He.ga K "least_divisor"
    | 15 => He.ga K "is_prime_of"
    | 16 => He.ga K "check_prime"
    | 17 => He.ga K "is_number_of"
    | 18 => He.ga K "check_number"
    | 19 => He.ga K "are_numbers"
    | 22 => He.ga K "digits_of"
    | 23 => He.ga K "is_table_of"
    | 24 => He.ga K "check_table"
    | 25 => He.ga K "check_numbers"
    | 26 => He.ga K "weights_by"
    | 27 => He.ga K "spread_by"
    | 28 => He.ga K "folded_by"
    | 29 => He.ga K "position_weights"
    | 30 => He.ga K "spread_value"
    | 31 => He.ga K "folded_table"
    | 33 => He.ga K "_law_pot"
    | 34 => He.ga K "_law_draw"
    | 35 => He.ga K "_law_pick"
    | 36 => He.ga K "_law_products"
    | 37 => He.ga K "_law_sums"
    | 38 => He.ga K "_law_case"
    | 39 => He.ga K "_law_folded_right"
    | 40 => He.ga K "_law_right"
    | 41 => He.ga K "law"
    | _ => 0
  let gg : Nat → FuncData := fun i => match i with
    | 11 => fd11
    | 12 => fd12
    | 13 => fd13
    | 14 => fd14
    | 15 => fd15
    | 16 => fd16
    | 17 => fd17
    | 18 => fd18
    | 19 => fd19
    | 22 => fd22
    | 23 => fd23
    | 24 => fd24
    | 25 => fd25
    | 26 => fd26
    | 27 => fd27
    | 28 => fd28
    | 29 => fd29
    | 30 => fd30
    | 31 => fd31
    | 33 => fd33
    | 34 => fd34
    | 35 => fd35
    | 36 => fd36
    | 37 => fd37
    | 38 => fd38
    | 39 => fd39
    | 40 => fd40
    | 41 => fd41
    | _ => fd41
  have T : TOk K mg ff gg := {
    F_is_integer := (He5.fun_of F11 : Fun K "is_integer" "is_integer" (topS 11) (He.ga K "is_integer") fd11)
    g_is_integer := He.glo_ok X G (c.fact 0 (f := .glo "is_integer") rfl)
    F_is_within := (He5.fun_of F12 : Fun K "is_within" "is_within" (topS 12) (He.ga K "is_within") fd12)
    g_is_within := He.glo_ok X G (c.fact 1 (f := .glo "is_within") rfl)
    F_is_list := (He5.fun_of F13 : Fun K "is_list" "is_list" (topS 13) (He.ga K "is_list") fd13)
    g_is_list := He.glo_ok X G (c.fact 2 (f := .glo "is_list") rfl)
    F_least_divisor := (He5.fun_of F14 : Fun K "least_divisor" "least_divisor" (topS 14) (He.ga K "least_divisor") fd14)
    g_least_divisor := He.glo_ok X G (c.fact 3 (f := .glo "least_divisor") rfl)
    F_is_prime_of := (He5.fun_of F15 : Fun K "is_prime_of" "is_prime_of" (topS 15) (He.ga K "is_prime_of") fd15)
    g_is_prime_of := He.glo_ok X G (c.fact 4 (f := .glo "is_prime_of") rfl)
    F_check_prime := (He5.fun_of F16 : Fun K "check_prime" "check_prime" (topS 16) (He.ga K "check_prime") fd16)
    g_check_prime := He.glo_ok X G (c.fact 5 (f := .glo "check_prime") rfl)
    F_is_number_of := (He5.fun_of F17 : Fun K "is_number_of" "is_number_of" (topS 17) (He.ga K "is_number_of") fd17)
    g_is_number_of := He.glo_ok X G (c.fact 6 (f := .glo "is_number_of") rfl)
    F_check_number := (He5.fun_of F18 : Fun K "check_number" "check_number" (topS 18) (He.ga K "check_number") fd18)
    g_check_number := He.glo_ok X G (c.fact 7 (f := .glo "check_number") rfl)
    F_are_numbers := (He5.fun_of F19 : Fun K "are_numbers" "are_numbers" (topS 19) (He.ga K "are_numbers") fd19)
    g_are_numbers := He.glo_ok X G (c.fact 8 (f := .glo "are_numbers") rfl)
    F_digits_of := (He5.fun_of F22 : Fun K "digits_of" "digits_of" (topS 22) (He.ga K "digits_of") fd22)
    g_digits_of := He.glo_ok X G (c.fact 9 (f := .glo "digits_of") rfl)
    F_is_table_of := (He5.fun_of F23 : Fun K "is_table_of" "is_table_of" (topS 23) (He.ga K "is_table_of") fd23)
    g_is_table_of := He.glo_ok X G (c.fact 10 (f := .glo "is_table_of") rfl)
    F_check_table := (He5.fun_of F24 : Fun K "check_table" "check_table" (topS 24) (He.ga K "check_table") fd24)
    g_check_table := He.glo_ok X G (c.fact 11 (f := .glo "check_table") rfl)
    F_check_numbers := (He5.fun_of F25 : Fun K "check_numbers" "check_numbers" (topS 25) (He.ga K "check_numbers") fd25)
    g_check_numbers := He.glo_ok X G (c.fact 12 (f := .glo "check_numbers") rfl)
    F_weights_by := (He5.fun_of F26 : Fun K "weights_by" "weights_by" (topS 26) (He.ga K "weights_by") fd26)
    g_weights_by := He.glo_ok X G (c.fact 13 (f := .glo "weights_by") rfl)
    F_spread_by := (He5.fun_of F27 : Fun K "spread_by" "spread_by" (topS 27) (He.ga K "spread_by") fd27)
    g_spread_by := He.glo_ok X G (c.fact 14 (f := .glo "spread_by") rfl)
    F_folded_by := (He5.fun_of F28 : Fun K "folded_by" "folded_by" (topS 28) (He.ga K "folded_by") fd28)
    g_folded_by := He.glo_ok X G (c.fact 15 (f := .glo "folded_by") rfl)
    F_position_weights := (He5.fun_of F29 : Fun K "position_weights" "position_weights" (topS 29) (He.ga K "position_weights") fd29)
    g_position_weights := He.glo_ok X G (c.fact 16 (f := .glo "position_weights") rfl)
    F_spread_value := (He5.fun_of F30 : Fun K "spread_value" "spread_value" (topS 30) (He.ga K "spread_value") fd30)
    g_spread_value := He.glo_ok X G (c.fact 17 (f := .glo "spread_value") rfl)
    F_folded_table := (He5.fun_of F31 : Fun K "folded_table" "folded_table" (topS 31) (He.ga K "folded_table") fd31)
    g_folded_table := He.glo_ok X G (c.fact 18 (f := .glo "folded_table") rfl)
    F__law_pot := (He5.fun_of F33 : Fun K "_law_pot" "_law_pot" (topS 33) (He.ga K "_law_pot") fd33)
    g__law_pot := He.glo_ok X G (c.fact 19 (f := .glo "_law_pot") rfl)
    F__law_draw := (He5.fun_of F34 : Fun K "_law_draw" "_law_draw" (topS 34) (He.ga K "_law_draw") fd34)
    g__law_draw := He.glo_ok X G (c.fact 20 (f := .glo "_law_draw") rfl)
    F__law_pick := (He5.fun_of F35 : Fun K "_law_pick" "_law_pick" (topS 35) (He.ga K "_law_pick") fd35)
    g__law_pick := He.glo_ok X G (c.fact 21 (f := .glo "_law_pick") rfl)
    F__law_products := (He5.fun_of F36 : Fun K "_law_products" "_law_products" (topS 36) (He.ga K "_law_products") fd36)
    g__law_products := He.glo_ok X G (c.fact 22 (f := .glo "_law_products") rfl)
    F__law_sums := (He5.fun_of F37 : Fun K "_law_sums" "_law_sums" (topS 37) (He.ga K "_law_sums") fd37)
    g__law_sums := He.glo_ok X G (c.fact 23 (f := .glo "_law_sums") rfl)
    F__law_case := (He5.fun_of F38 : Fun K "_law_case" "_law_case" (topS 38) (He.ga K "_law_case") fd38)
    g__law_case := He.glo_ok X G (c.fact 24 (f := .glo "_law_case") rfl)
    F__law_folded_right := (He5.fun_of F39 : Fun K "_law_folded_right" "_law_folded_right" (topS 39) (He.ga K "_law_folded_right") fd39)
    g__law_folded_right := He.glo_ok X G (c.fact 25 (f := .glo "_law_folded_right") rfl)
    F__law_right := (He5.fun_of F40 : Fun K "_law_right" "_law_right" (topS 40) (He.ga K "_law_right") fd40)
    g__law_right := He.glo_ok X G (c.fact 26 (f := .glo "_law_right") rfl)
    F_law := (He5.fun_of F41 : Fun K "law" "law" (topS 41) (He.ga K "law") fd41)
    g_law := He.glo_ok X G (c.fact 27 (f := .glo "law") rfl)
    b_abs := He.free_ok X G (c.fact 28 (f := .free "abs") rfl)
    b_all := He.free_ok X G (c.fact 29 (f := .free "all") rfl)
    b_bool := He.free_ok X G (c.fact 30 (f := .free "bool") rfl)
    b_divmod := He.free_ok X G (c.fact 31 (f := .free "divmod") rfl)
    b_int := He.free_ok X G (c.fact 32 (f := .free "int") rfl)
    b_isinstance := He.free_ok X G (c.fact 33 (f := .free "isinstance") rfl)
    b_len := He.free_ok X G (c.fact 34 (f := .free "len") rfl)
    b_list := He.free_ok X G (c.fact 35 (f := .free "list") rfl)
    b_max := He.free_ok X G (c.fact 36 (f := .free "max") rfl)
    b_min := He.free_ok X G (c.fact 37 (f := .free "min") rfl)
    b_range := He.free_ok X G (c.fact 38 (f := .free "range") rfl)
    b_repr := He.free_ok X G (c.fact 39 (f := .free "repr") rfl)
    b_sum := He.free_ok X G (c.fact 40 (f := .free "sum") rfl)
    b_tuple := He.free_ok X G (c.fact 41 (f := .free "tuple") rfl)
    b_zip := He.free_ok X G (c.fact 42 (f := .free "zip") rfl)
    c_LEAST_PRIME := He.int_ok X G (c.fact 43 (f := .int "LEAST_PRIME" 3) rfl)
    c_MOST_DIGITS := He.int_ok X G (c.fact 44 (f := .int "MOST_DIGITS" 9) rfl)
    c_MOST_PRIME := He.int_ok X G (c.fact 45 (f := .int "MOST_PRIME" 9973) rfl)
  }
  have bb := FunD.bindsA (ps := ["script"]) F41 fun _ _ _ _ _ _ us hl => match us, hl with | [_], _ => rfl
  exact ⟨fd41, fun s u => bb s [u] rfl, fun base _ _ => ok_law T⟩
end KL
open PySem PySem.W PySem.Calls PyProof.Rows
theorem PySem.Challenge.cw_equalruns_k85_whole_tables_by_formula_holds : PySem.Challenge.rw_equalruns_k85_whole_tables_by_formula.Holds := by
  w_on; o_law
  refine HandSHeadRun.head_any (r := OpenLaw.row PySem.Challenge.rw_equalruns_k85_whole_tables_by_formula) (q := view (OpenLaw.row PySem.Challenge.rw_equalruns_k85_whole_tables_by_formula).prog [41]) (H := KL.hk) (ob := KL.ob) (M := 3000) (loose := KL.looseL) (d := HandSHeadRun.topDef (OpenLaw.row PySem.Challenge.rw_equalruns_k85_whole_tables_by_formula).prog 41) (kwd := []) KL.ob_eq
    (by kernel_rfl) (fun s => by kernel_rfl) KL.run (by kernel_rfl) (by kernel_rfl) (by kernel_rfl) (by rfl) (by first | assumption | decide +kernel) (by decide +kernel) ⟨rfl, rfl, rfl, rfl, rfl, by decide +kernel⟩ ?hw ?hc
  case hw => w_witness2
  case hc =>
    refine VL.walk_v (l := PySem.Challenge.rw_equalruns_k85_whole_tables_by_formula) (n := 63) (k := 10) (x := "script") rfl (by decide) (by kernel_rfl) ⟨rfl, by decide, by decide⟩ ?F
    intro w mg fa h Y G hmg0
    obtain ⟨K, KX, c⟩ := Y
    have hmg : mg ("law" : PySem.Str) = some (.ref fa) := by
      have e : (HandSHeadRun.topDef (OpenLaw.row PySem.Challenge.rw_equalruns_k85_whole_tables_by_formula).prog 41).name = ("law" : PySem.Str) := by kernel_rfl
      rw [← e]
      exact hmg0
    obtain ⟨fd, hb, hF⟩ := KL.facts (P := (PySem.Challenge.rw_equalruns_k85_whole_tables_by_formula).prog) (w := w) KX G hmg c
    exact ⟨K, fd, KL.sp_law, KX, hb, fun ns R hl hR => ⟨ns, rfl, hl, hR⟩, hF⟩

